/- Cells of more variables: what the function computes. -/
import Derived.Test.YthefcjjgchekiaaGreatE22
import Derived.Test.YthefcjjgchekiaaGreatT13
set_option linter.unusedSimpArgs false
set_option linter.unusedVariables false
namespace Go.T
open Go Go.Proofs
set_option maxHeartbeats 4000000
set_option maxRecDepth 100000
def qcx (more:Int) (a:Val qa):Val qa:=((a.1++List.replicate more.toNat (0:Int):List Int),a.2)
def qq (c:Val Y33) (more:Int):Val Y33:=(((c.1:Int)+more:Int),c.2.map (qcx more))
def qlv (c:Val Y33) (more:Int):Prop:=qi0 c∧(∀a∈(c.2:List (Val qa)),List.length (α:=Int) a.1≤100)∧(0≤more∧more≤4)∧(0≤(c.1:Int)∧(c.1:Int)≤100)
def qdz:G:={ps:=[i33,i3],rs:=[i33],dp:=true,pre:=fun x=>qlv x.1 x.2.1,fn:=fun x=>(qq x.1 x.2.1,())}
noncomputable def qvC (N:Nat) (v19:Int) (v20:Int) (v21:Int) (v22:Int) (v23:List (Val (hd qa))) (v24:List (Val qa)) (v25:Int) (v26:Int) (v27:List (Val (hd qa))) (k9006:(List (Val qa))→Option (qc [i33])) (_:Nat):Option (qc [i33]):=chk (0≤v20∧v20<(v27.length:Int)) (chk (v20.toNat<v27.length) (chk (v20.toNat<v24.length∧v20.toNat<v23.length∧((v23.getD v20.toNat (qb (hd qa)):Val (hd qa)).1:Value)=((v27.getD v20.toNat (qb (hd qa))).1:Value)∧0≤v19∧((v24.getD v20.toNat (qb qa)).1:List (Val (.int .i64))).length+v19.toNat≤1048576) (chk (0≤v20∧v20<(v27.length:Int)) (chk (v20.toNat<(v24.set v20.toNat (([]:List (Val (.int .i64))),(v24.getD v20.toNat (qb qa)).2)).length∧(v23.set v20.toNat ((Value.slice none 0 0),(v23.getD v20.toNat (qb (hd qa)):Val (hd qa)).2)).length=(v24.set v20.toNat (([]:List (Val (.int .i64))),(v24.getD v20.toNat (qb qa)).2)).length∧qX qa (v24.set v20.toNat (([]:List (Val (.int .i64))),(v24.getD v20.toNat (qb qa)).2)) (v23.set v20.toNat ((Value.slice none 0 0),(v23.getD v20.toNat (qb (hd qa)):Val (hd qa)).2))=(v23.set v20.toNat ((Value.slice none 0 0),(v23.getD v20.toNat (qb (hd qa)):Val (hd qa)).2))∧(v23.set v20.toNat ((Value.slice none 0 0),(v23.getD v20.toNat (qb (hd qa)):Val (hd qa)).2))=(v27.set v20.toNat ((Value.slice none 0 0),(v27.getD v20.toNat (qb (hd qa)):Val (hd qa)).2))) (k9006 ((v24.set v20.toNat (([]:List (Val (.int .i64))),(v24.getD v20.toNat (qb qa)).2)).set v20.toNat ((((v24.getD v20.toNat (qb qa)).1:List (Val (.int .i64)))++List.replicate v19.toNat (qb (.int .i64))),((v24.set v20.toNat (([]:List (Val (.int .i64))),(v24.getD v20.toNat (qb qa)).2)).getD v20.toNat (qb qa)).2)))))))
noncomputable def qhN (N:Nat) (v2:Int) (v3:Int) (v5:Int) (v6:Int) (k0:(List (Val qa))→Option (qc [i33])):Nat→Int→(List (Val qa))→Option (qc [i33])
 | 0,_,_=>none
 | n+1,v4,v7=>bif (decide (v4<v3))then (qeL (fun p2:List Nat×List (Val (hd qa))=>qeg qa p2.2 v7) (fun p2=>qvC N v2 v4 v3 v4 p2.2 v7 v5 v6 p2.2 (fun (v29:List (Val qa))=>qhN N v2 v3 v5 v6 k0 n (IntKind.i64.wrap (v4+(1:Int))) v29) N))else (k0 v7)
noncomputable def qBf (N:Nat) (v0:Val Y33) (v1:Int):Option (qc [i33]):=chk (qi0 v0) (qhN N v1 (((cpC v0).2:List (Val qa)).length:Int) (0:Int) (IntKind.i64.wrap (((cpC v0).1:Int)+v1)) (fun (v31:List (Val qa))=>some (((IntKind.i64.wrap (((cpC v0).1:Int)+v1)),v31),())) N (0:Int) ((cpC v0).2:List (Val qa)))
def qg8:Gam:=[(214,qbm)]
theorem quQ:Gam.get qg8 214=some qbm:=rfl
def qDA:Nm:=⟨[false,true,false,false,true,true,true,false,false,false,false,false,false,false,false,false,true,true],[],false⟩
theorem qxl:qDA.zero=false:=rfl
theorem qql:qDA.fix=[]:=rfl
theorem qtF:qDA.keep=[false,true,false,false,true,true,true,false,false,false,false,false,false,false,false,false,true,true]:=rfl
def qrE:Nm:=⟨[false,true,false,false,true,true,false,false,false,false,false,false,false,false,false,false,true,true],[],false⟩
theorem qtE:qrE.zero=false:=rfl
theorem qtJ:qrE.fix=[]:=rfl
theorem qpP:qrE.keep=[false,true,false,false,true,true,false,false,false,false,false,false,false,false,false,false,true,true]:=rfl
def qB3:Nm:=⟨[false,false,false,false,true,true],[],false⟩
theorem qs8:qB3.zero=false:=rfl
theorem qrd:qB3.fix=[]:=rfl
theorem qxj:qB3.keep=[false,false,false,false,true,true]:=rfl
def qzJ:Nm:=⟨[false,true,false,false,true,true,false,false,false,false,false,false,false,false,false,false,true,true],[],false⟩
theorem qvz:qzJ.zero=false:=rfl
theorem qxe:qzJ.fix=[]:=rfl
theorem qq6:qzJ.keep=[false,true,false,false,true,true,false,false,false,false,false,false,false,false,false,false,true,true]:=rfl
def qkO:Sem:=qAe tt [(30,0,0,25)] [(32,0)] (qhH)
def qip:Nat→Tree:=fun i=>if i=6 then .sem [10,13] (.quiet 3 (.quiet 4 (.quiet 5 (.quiet 6 (.quiet 7 (.quiet 8 (.quiet 9 (.alt 0 (.alt 1 (.alt 2 (.alt 10 (.quiet 11 (.quiet 12 (.alt 13 .done .stop))) .stop) (.alt 10 (.quiet 2 (.quiet 11 (.quiet 12 (.alt 13 .done .stop)))) .stop)) (.alt 2 (.alt 1 (.alt 10 (.quiet 11 (.quiet 12 (.alt 13 .done .stop))) .stop) (.alt 10 (.quiet 1 (.quiet 11 (.quiet 12 (.alt 13 .done .stop)))) .stop)) (.alt 10 (.quiet 1 (.quiet 2 (.quiet 11 (.quiet 12 (.alt 13 .done .stop))))) .stop))) (.alt 2 (.alt 0 (.alt 1 (.alt 10 (.quiet 11 (.quiet 12 (.alt 13 .done .stop))) .stop) (.alt 10 (.quiet 1 (.quiet 11 (.quiet 12 (.alt 13 .done .stop)))) .stop)) (.alt 10 (.quiet 0 (.quiet 1 (.quiet 11 (.quiet 12 (.alt 13 .done .stop))))) .stop)) (.alt 10 (.quiet 0 (.quiet 1 (.quiet 2 (.quiet 11 (.quiet 12 (.alt 13 .done .stop)))))) .stop))))))))))else .done
def qjQ:Nat→Nm:=fun i=>if i=4 then qrE else ⟨[],[],false⟩
noncomputable def qgH:Nat→Option Jn:=fun i=>if i=6 then some (.nm qDA)else if i=5 then some (.at (some (.opn 2 qa)) none)else none
def qk6:Nat→Option Nm:=fun i=>if i=0 then some qB3 else none
def qkQ:Nat→Option Nm:=fun i=>if i=6 then some qzJ else none
theorem ziK:qn qip (Tryz.f202.body.getD .skip)=true:=by kernel_rfl
noncomputable def qcc (N:Nat):Tab:={tr:=qip,lp:=qjQ,ex:=qk6,rg:=qkQ,jn:=qgH,fuel:=N,sem:=qkO}
theorem qqv (N:Nat):(qcc N).pins=false:=rfl
theorem zd6 (N:Nat):qp Tryz.prog (qcc N):=fun id j t h ht=>by
 have h:qgH id=_:=h
 unfold qgH at h
 repeat' split at h
 all_goals first | (simp at h;done) | (simp only [Option.some.injEq]at h;subst h;simp [Jn.tb]at ht;done) | (simp only [Option.some.injEq]at h;subst h;simp only [Jn.tb,Option.some.injEq]at ht;subst ht;exact hTH)
theorem qrR (N:Nat):(qcc N).sem=qkO:=rfl
theorem qqn (N:Nat) (i:Nat):(qcc N).tr i=qip i:=rfl
theorem qvg (N:Nat) (i:Nat):(qcc N).lp i=qjQ i:=rfl
theorem qpK (N:Nat) (i:Nat):(qcc N).ex i=qk6 i:=rfl
theorem qrP (N:Nat) (i:Nat):(qcc N).rg i=qkQ i:=rfl
theorem quv (N:Nat) (i:Nat):(qcc N).jn i=qgH i:=rfl
theorem qse (N:Nat):(qcc N).fuel=N:=rfl
noncomputable def qYj:Code:=cut [true,true,true,false,true,true,true,true,true,false,true,true] (Tryz.f202.body.getD .skip)
theorem zgb {N:Nat} {Q:X→St→Option (qc [i33])} {e:List LV} {h:List Blk}:qa7 tt qg8 (qcc N) qYj Q ⟨e,h⟩=qa7 tt qg8 (qcc N) (cut [true,true,true,false,true,true,true,true,true,false,true,true] (Tryz.f202.body.getD .skip)) Q ⟨e,h⟩:=rfl
theorem ziY (N:Nat) (F:List Nat) (v19:Int) (v20:Int) (v21:Int) (v22:Int) (v23:List (Val (hd qa))) (v24:List (Val qa)) (v25:Int) (v26:Int) (v27:List (Val (hd qa))) {k9006:(List (Val qa))→Option (qc [i33])} {Q:X→St→Option (qc [i33])} {c:Code} (hc:c=qYj) (h9006: ∀(v28:List (Val qa)),Q .normal ⟨[u,.one (.int .i64 v19),u,u,.one (.ptr 0 0 0),.one (.ptr 1 0 0),u,u,u,u,u,u,u,u,u,u,.one (.int .i64 v21),.one (.int .i64 v22),u,u,u,u,u,u,u,u,u,u,u,u,u,u,u,u,u],[.box [.int .i64 v25,.nils],.box [.int .i64 v26,.own 2],.row 108 qa v28 true true 0]⟩=k9006 v28):qa7 tt qg8 (qcc N) c Q ⟨[u,.one (.int .i64 v19),u,u,.one (.ptr 1 0 0),.one (.ptr 2 0 0),.one (.int .i64 v20),u,u,u,u,u,u,u,u,u,.one (.int .i64 v21),.one (.int .i64 v22),u,u,u,u,u,u,u,u,u,u,u,u,u,u,u,u,u],[.nst F qa v23 v24,.box [.int .i64 v25,.nils],.box [.int .i64 v26,.own 3],.row 108 (hd qa) v27 true true 0]⟩=qvC N v19 v20 v21 v22 v23 v24 v25 v26 v27 k9006 N:=by
 subst hc;rw [zgb,qvC];unfold Tryz.f202
 simp (maxSteps:=10000000) -implicitDefEqProofs [qaX (id:=6),qaZ (id:=6),qqn,qip,qvg,qjQ,qpK,qk6,qrP,qkQ,quv,qgH,qse,qqv,qrR,qkO,qbc,qaX (id:=5),qaZ (id:=5),qql,qtF,qxl,qtJ,qpP,qtE,qrd,qxj,qs8,qxe,qq6,qvz,quQ,qbm,h9006]
noncomputable def q0H:Code:=cut [true,true,true,false,true,true,true] (Tryz.f202.body.getD .skip)
theorem q8s {N:Nat} {Q:X→St→Option (qc [i33])} {e:List LV} {h:List Blk}:qe tt qg8 (qcc N) q0H Q ⟨e,h⟩=qe tt qg8 (qcc N) (cut [true,true,true,false,true,true,true] (Tryz.f202.body.getD .skip)) Q ⟨e,h⟩:=rfl
theorem zpN (N:Nat) (v2:Int) (v3:Int) (v5:Int) (v6:Int) {k0:(List (Val qa))→Option (qc [i33])} {Q:X→St→Option (qc [i33])} {c:Code} (hc:c=q0H) (hret: ∀st,Q .ret st=qI tt true [i33] [.cell 4 33] st) (h0: ∀(v30:List (Val qa)),Q (.exit 0) ⟨[u,u,u,u,.one (.ptr 0 0 0),.one (.ptr 1 0 0),u,u,u,u,u,u,u,u,u,u,u,u,u,u,u,u,u,u,u,u,u,u,u,u,u,u,u,u,u],[.box [.int .i64 v5,.nils],.box [.int .i64 v6,.own 2],.row 108 qa v30 true true 0]⟩=k0 v30): ∀(n:Nat) (v4:Int) (v7:List (Val qa)),qE (qe tt qg8 (qcc N) c) false qrE Q n ⟨[u,.one (.int .i64 v2),u,u,.one (.ptr 0 0 0),.one (.ptr 1 0 0),u,u,u,u,u,u,u,u,u,u,.one (.int .i64 v3),.one (.int .i64 v4),u,u,u,u,u,u,u,u,u,u,u,u,u,u,u,u,u],[.box [.int .i64 v5,.nils],.box [.int .i64 v6,.own 2],.row 108 qa v7 true true 0]⟩=qhN N v2 v3 v5 v6 k0 n v4 v7:=by
 subst hc;intro n;induction n with
 | zero=>intros;rfl
 | succ n ih=>
   intro v4 v7
   rw [qN,q8s];unfold Tryz.f202
   simp (maxSteps:=10000000) -implicitDefEqProofs [qqn,qip,qvg,qjQ,qpK,qk6,qrP,qkQ,quv,qgH,qse,qqv,qrR,qkO,qbc,qaX (id:=5),qaZ (id:=5),qql,qtF,qxl,qtJ,qpP,qtE,qrd,qxj,qs8,qxe,qq6,qvz,quQ,qbm,hret,h0,ih]
   rewrite [qhN]
   try simp only [Bool.cond_not]
   repeat' (first | with_reducible rfl | refine q3L fun _=> ?_ | refine q3e fun p2 _=> ?_ | refine zjE ?_ ?_ | (refine congrArg some ?_;rfl))
   rewrite [ziY (k9006:=(fun (v29:List (Val qa))=>qhN N v2 v3 v5 v6 k0 n (IntKind.i64.wrap (v4+(1:Int))) v29)) N _ _ _ _ _ _ _ _ _ _ ?_ ?_]
   ·first | rfl | simp (maxSteps:=10000000) -implicitDefEqProofs [ih]
   ·rfl
   ·intro v29;simp (maxSteps:=10000000) -implicitDefEqProofs [qqn,qip,qvg,qjQ,qpK,qk6,qrP,qkQ,quv,qgH,qse,qqv,qrR,qkO,qbc,qaX (id:=5),qaZ (id:=5),qql,qtF,qxl,qtJ,qpP,qtE,qrd,qxj,qs8,qxe,qq6,qvz,quQ,qbm,hret,h0,ih]
theorem zlY (N:Nat) (v0:Val Y33) (v1:Int):qe tt qg8 (qcc N) (Tryz.f202.body.getD .skip) (qt tt true [i33] [.cell 4 33]) (qw [i33,i3] 35 (v0,v1,()))=qBf N v0 v1:=by
 unfold Tryz.f202
 simp (maxSteps:=10000000) -implicitDefEqProofs [qqn,qip,qvg,qjQ,qpK,qk6,qrP,qkQ,quv,qgH,qse,qqv,qrR,qkO,qbc,qaX (id:=5),qaZ (id:=5),qql,qtF,qxl,qtJ,qpP,qtE,qrd,qxj,qs8,qxe,qq6,qvz,quQ,qbm]
 rewrite [zpN (k0:=(fun (v31:List (Val qa))=>some (((IntKind.i64.wrap (((cpC v0).1:Int)+v1)),v31),()))) N _ _ _ _ ?_ ?_ ?_]
 ·rewrite [qBf];first | rfl | simp (maxSteps:=10000000) -implicitDefEqProofs []
 ·rfl
 ·intro;simp only [qJ,qL,qK,qB]
 ·intro v31;simp (maxSteps:=10000000) -implicitDefEqProofs [qqn,qip,qvg,qjQ,qpK,qk6,qrP,qkQ,quv,qgH,qse,qqv,qrR,qkO,qbc,qaX (id:=5),qaZ (id:=5),qql,qtF,qxl,qtJ,qpP,qtE,qrd,qxj,qs8,qxe,qq6,qvz,quQ,qbm]
theorem zhM {e:Nat} {t b:Ty} {i:Nat} {vs:List (Val (.pair (.slice e t) b))} {hs:List (Val (hd (.pair (.slice e t) b)))} (hl:hs.length=vs.length) (hm:qX (.pair (.slice e t) b) vs hs=hs) (y:List (Val t)) (u:Value) (dv:Val (.pair (.slice e t) b)) (dh:Val (hd (.pair (.slice e t) b))):
 qX (.pair (.slice e t) b) (vs.set i (y,(vs.getD i dv).2)) (hs.set i (u,(hs.getD i dh).2))=hs.set i (u,(hs.getD i dh).2):=by
 have:=q4d (e:=e) (t':=t) (f:=0) (i:=i) (u:=u) (y:=y) (dv:=dv) (dh:=dh) hl hm
 simpa [qax,qZ,Ty.sz] using this
theorem q4a (N:Nat) {more:Int} (hm:0≤more∧more≤4) (v5 v6:Int) (K:List (Val qa)→Option (qc [i33])) {r:qc [i33]} (xs:List (Val qa)) (hx: ∀a∈xs,List.length (α:=Int) a.1≤100) (hl:xs.length≤1048576):
 ∀(k i m:Nat),i+k=xs.length→k<m→ ∀s:List (Val qa),s.length=xs.length→s.drop i=xs.drop i→K (s.take i++(xs.drop i).map (qcx more))=some r→
  qhN N more xs.length v5 v6 K m i s=some r
 | 0,i,m+1,hi,_,s,hs,hd,hK=>by
   rw [qhN,qj (by omega)]
   rw [List.take_of_length_le (by omega),List.drop_eq_nil_of_le (by omega),List.map_nil,List.append_nil]at hK
   exact hK
 | k+1,i,m+1,hi,hm',s,hs,hd,hK=>by
   rw [qhN,qk (by omega)]
   obtain ⟨hs0,g0⟩:=q2i qa s
   refine qzp ⟨([],hs0),g0⟩ fun p hp=> ?_
   obtain ⟨F,hn⟩:=p
   have hp:qeg qa hn s:=hp
   have hl2:=hp.1
   have his:i<s.length:=by omega
   have hix:i<xs.length:=by omega
   have hin:i<hn.length:=by omega
   have hsx:s[i]=xs[i]:=by
    have:=congrArg (fun l=>l[0]?) hd
    simpa [his,hix] using this
   have hlen:List.length (α:=Int) s[i].1≤100:=by rw [hsx];exact hx _ (List.getElem_mem hix)
   have hnn:((i:Int)).toNat=i:=Int.toNat_natCast i
   show qvC N more (i:Int) (xs.length:Int) (i:Int) hn s v5 v6 hn _ N=_
   rw [qvC,hnn,qd ⟨by omega,by omega⟩,qd hin,qd ⟨his,hin,rfl,hm.1,by
       rw [show s.getD i (qb qa)=s[i] by simp [List.getD,his]]
       show List.length (α:=Int) s[i].1+_≤_
       omega⟩,qd ⟨by omega,by omega⟩,qd ⟨by rw [List.length_set];exact his,by rw [List.length_set,List.length_set];exact hl2,zhM hl2 hp.2.1 _ _ _ _,rfl⟩]
   have e1: ∀z:Val qa,((s.set i z).set i (((s.getD i (qb qa)).1:List (Val (.int .i64)))++List.replicate more.toNat (qb (.int .i64)),z.2))=s.set i ((s[i].1:List Int)++List.replicate more.toNat (0:Int),z.2):=fun z=>by
    rw [List.set_set]
    simp [List.getD,his,qb]
   have e2:(s.set i (([]:List (Val (.int .i64))),(s.getD i (qb qa)).2)).getD i (qb qa)=(([]:List (Val (.int .i64))),(s.getD i (qb qa)).2):=q3h his
   have e3:(s.getD i (qb qa)).2=s[i].2:=by simp [List.getD,his]
   rw [e2,e1,e3,qa2 (n:=xs.length) hix hl]
   refine q4a N hm v5 v6 K xs hx hl k (i+1) m (by omega) (by omega) _ (by rw [List.length_set];exact hs) ?_ ?_
   ·rw [List.drop_set_of_lt (by omega),←List.drop_drop,←List.drop_drop,hd]
   ·have e4:(s.set i ((s[i].1:List Int)++List.replicate more.toNat (0:Int),s[i].2)).take (i+1)=s.take i++[qcx more xs[i]]:=by
     rw [←hsx,←List.take_append_getElem (by rw [List.length_set];exact his),List.take_set_of_le (Nat.le_refl _),List.getElem_set_self]
     rfl
    rw [e4,List.append_assoc,List.singleton_append]
    rw [List.drop_eq_getElem_cons hix,List.map_cons]at hK
    exact hK
theorem zpB (c:Val Y33) (more:Int) (h:qlv c more): ∃N,qBf N c more=some (qq c more,()):=⟨List.length (α:=Val qa) c.2+1,by
 obtain ⟨d,xs⟩:=c
 change Int at d
 change List (Val qa)at xs
 obtain ⟨hb,hx,hm,hd⟩:=h
 have hd:0≤d∧d≤100:=hd
 have hl:xs.length≤1048576:=hb.2.1
 rw [qBf,qd hb]
 show qhN _ more (xs.length:Int) (0:Int) (IntKind.i64.wrap (d+more)) _ _ ((0:Nat):Int) xs=_
 rw [qaq (by omega) (by omega)]
 exact q4a _ hm 0 (d+more) _ xs hx hl xs.length 0 _ (by omega) (Nat.lt_succ_self _) xs rfl rfl (by
  show some ((IntKind.i64.wrap (d+more),List.take 0 xs++(List.drop 0 xs).map (qcx more)),())=some (((d+more:Int),xs.map (qcx more)),())
  rw [qaq (by omega) (by omega),List.take_zero,List.drop_zero,List.nil_append])⟩
theorem qYJ:Sound Tryz.prog 202 qdz:=qx (tt:=tt) (Γ:=qg8) hT (qg qWY qu) hm (fn:=Tryz.f202) Tryz.func202 (c:=Tryz.f202.body.getD .skip) (by kernel_rfl) (by kernel_rfl) fun x hx=>by
 obtain ⟨N,h⟩:=zpB x.1 x.2.1 hx
 exact ⟨qcc N,ziK,zp7 hT (qy _),zd6 N,(zlY N x.1 x.2.1).trans h⟩
end Go.T
