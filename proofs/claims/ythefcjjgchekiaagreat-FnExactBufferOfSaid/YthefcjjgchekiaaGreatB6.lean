/- Meeting and cutting cells. -/
import Derived.Test.YthefcjjgchekiaaGreatB5
set_option linter.unusedSimpArgs false
set_option linter.unusedVariables false
namespace Go.T
open Go Go.Proofs
set_option maxHeartbeats 4000000
set_option maxRecDepth 100000
def qay (d:Int) (l:List (Val qa)):Val Y33×Bool:=bif decide ((16:Int)<(List.length (α:=Val qa) (qm d l).2:Int))then (((0:Int),[]),false)else (qm d l,true)
def qiL (d:Int) (l:List (Val qa)):Prop:=okL d l
def qc6:G:={ps:=[i3,i31],rs:=[i33,i4],dp:=true,pre:=fun x=>qiL x.1 x.2.1,fn:=fun x=>((qay x.1 x.2.1).1,(qay x.1 x.2.1).2,())}
noncomputable def qAS (N:Nat) (v0:Int) (v1:List (Val qa)):Option (qb [i33,i4]):=chk (qaK v0 v1) (bif (decide ((16:Int)<(((qm v0 v1).2:List (Val qa)).length:Int)))then (some (((0:Int),([]:List (Val qa))),false,()))else (some ((((qm v0 v1).1:Int),((qm v0 v1).2:List (Val qa))),true,())))
def qE2:Gam:=[(230,qei)]
theorem zbl:Gam.get qE2 230=some qei:=rfl
def qzj:Nat→Tree:=fun _=> .done
def qKs:Nat→Nm:=fun _=>⟨[],[],false⟩
def qGs:Nat→Option Jn:=fun _=>none
def qNA:Nat→Option Nm:=fun _=>none
def qIq:Nat→Option Nm:=fun _=>none
theorem zag:qj qzj (Tryz.f255.body.getD .skip)=true:=by kernel_rfl
def qf8 (N:Nat):Tab:={tr:=qzj,lp:=qKs,ex:=qNA,rg:=qIq,jn:=qGs,fuel:=N}
theorem qWj (N:Nat):(qf8 N).pins=false:=rfl
theorem q2f (N:Nat):qn Tryz.prog (qf8 N):=qr fun _=>rfl
theorem q0m (N:Nat) (i:Nat):(qf8 N).tr i=qzj i:=rfl
theorem qU0 (N:Nat) (i:Nat):(qf8 N).lp i=qKs i:=rfl
theorem qZR (N:Nat) (i:Nat):(qf8 N).ex i=qNA i:=rfl
theorem q64 (N:Nat) (i:Nat):(qf8 N).rg i=qIq i:=rfl
theorem zbI (N:Nat) (i:Nat):(qf8 N).jn i=qGs i:=rfl
theorem zbJ (N:Nat):(qf8 N).fuel=N:=rfl
theorem qX1 (N:Nat) (v0:Int) (v1:List (Val qa)):qd tt qE2 (qf8 N) (Tryz.f255.body.getD .skip) (qo tt true [i33,i4] [.cell 4 33,.tmp 5]) (qt [i3,i31] 16 (v0,v1,()))=qAS N v0 v1:=by
 rw [qAS];unfold Tryz.f255
 simp (maxSteps:=10000000) -implicitDefEqProofs [q0m,qzj,qU0,qKs,qZR,qNA,q64,qIq,zbI,qGs,zbJ,qWj,zbl,qei]
 try rfl
theorem qWq (d:Int) (l:List (Val qa)) (h:qiL d l): ∃N,qAS N d l=some ((qay d l).1,(qay d l).2,()):=⟨0,by
 rw [qAS,qe (show qaK d l from h)]
 unfold qay
 cases decide ((16:Int)<(List.length (α:=Val qa) (qm d l).2:Int))<;>rfl⟩
theorem qQb:Sound Tryz.prog 255 qc6:=qu (tt:=tt) (Γ:=qE2) hT (qf qIW qq) hm (fn:=Tryz.f255) Tryz.func255 (c:=Tryz.f255.body.getD .skip) (by kernel_rfl) (by kernel_rfl) fun x hx=>by
 obtain ⟨N,h⟩:=qWq x.1 x.2.1 hx
 exact ⟨qf8 N,zag,qv _,q2f N,(qX1 N x.1 x.2.1).trans h⟩
def qaw (a b:Val Y33):Val Y33×Bool:=bif qD a&&qD b&&decide ((a.1:Int)=(b.1:Int))then qay a.1 (List.append (α:=Val qa) a.2 b.2)else (((0:Int),[]),false)
def qwh (a b:Val Y33):Prop:=qcg a∧qcg b
def qu2:G:={ps:=[i33,i33],rs:=[i33,i4],dp:=true,pre:=fun _=>True,fn:=fun x=>((qaw x.1 x.2.1).1,(qaw x.1 x.2.1).2,())}
def qyC:G:={ps:=[i33,i33],rs:=[i33,i4],dp:=false,pre:=fun x=>qwh x.1 x.2.1,fn:=fun x=>((qaw x.1 x.2.1).1,(qaw x.1 x.2.1).2,())}
noncomputable def qwF (N:Nat) (v0:Val Y33) (v1:Val Y33):Option (qb [i33,i4]):=bif (!((qD v0):Bool))then (some (((0:Int),([]:List (Val qa))),false,()))else (bif (!((qD v1):Bool))then (some (((0:Int),([]:List (Val qa))),false,()))else (bif (!(decide ((v0.1:Int)=(v1.1:Int))))then (some (((0:Int),([]:List (Val qa))),false,()))else (chk (qyk ([(v0.2:List (Val qa)),(v1.2:List (Val qa))]:List (Val (.slice 108 qa)))) (chk (qiL (v0.1:Int) ((qhA ([(v0.2:List (Val qa)),(v1.2:List (Val qa))]:List (Val (.slice 108 qa)))):List (Val qa))) (some (((((qay (v0.1:Int) ((qhA ([(v0.2:List (Val qa)),(v1.2:List (Val qa))]:List (Val (.slice 108 qa)))):List (Val qa))).1).1:Int),(((qay (v0.1:Int) ((qhA ([(v0.2:List (Val qa)),(v1.2:List (Val qa))]:List (Val (.slice 108 qa)))):List (Val qa))).1).2:List (Val qa))),((qay (v0.1:Int) ((qhA ([(v0.2:List (Val qa)),(v1.2:List (Val qa))]:List (Val (.slice 108 qa)))):List (Val qa))).2:Bool),()))))))
def qpc:Gam:=[(199,qaz),(219,qBf),(255,qc6)]
theorem qVz:Gam.get qpc 199=some qaz:=rfl
theorem q6E:Gam.get qpc 219=some qBf:=rfl
theorem q6k:Gam.get qpc 255=some qc6:=rfl
def qvJ:Nm:=⟨[false,false,false,false,true,true],[],false⟩
theorem q41:qvJ.zero=false:=rfl
theorem q2p:qvJ.fix=[]:=rfl
theorem zdb:qvJ.keep=[false,false,false,false,true,true]:=rfl
def qAc:Nat→Tree:=fun i=>if i=3 then .quiet 2 (.quiet 3 (.quiet 4 (.quiet 5 (.alt 0 (.alt 1 (.alt 6 (.alt 7 (.alt 8 (.quiet 9 (.quiet 10 (.alt 11 (.quiet 12 .done) .stop))) .stop) .stop) .stop) (.alt 6 (.alt 1 (.alt 7 (.alt 8 (.quiet 9 (.quiet 10 (.alt 11 (.quiet 12 .done) .stop))) .stop) .stop) (.alt 7 (.quiet 1 (.alt 8 (.quiet 9 (.quiet 10 (.alt 11 (.quiet 12 .done) .stop))) .stop)) .stop)) .stop)) (.alt 6 (.alt 0 (.alt 1 (.alt 7 (.alt 8 (.quiet 9 (.quiet 10 (.alt 11 (.quiet 12 .done) .stop))) .stop) .stop) (.alt 7 (.quiet 1 (.alt 8 (.quiet 9 (.quiet 10 (.alt 11 (.quiet 12 .done) .stop))) .stop)) .stop)) (.alt 7 (.quiet 0 (.quiet 1 (.alt 8 (.quiet 9 (.quiet 10 (.alt 11 (.quiet 12 .done) .stop))) .stop))) .stop)) .stop)))))else .done
def qBU:Nat→Nm:=fun _=>⟨[],[],false⟩
def qCH:Nat→Option Jn:=fun _=>none
def qJy:Nat→Option Nm:=fun _=>none
def qNc:Nat→Option Nm:=fun i=>if i=3 then some qvJ else none
theorem qWZ:qj qAc (Tryz.f182.body.getD .skip)=true:=by kernel_rfl
def qfD (N:Nat):Tab:={tr:=qAc,lp:=qBU,ex:=qJy,rg:=qNc,jn:=qCH,fuel:=N}
theorem zbD (N:Nat):(qfD N).pins=false:=rfl
theorem q4R (N:Nat):qn Tryz.prog (qfD N):=qr fun _=>rfl
theorem q1o (N:Nat) (i:Nat):(qfD N).tr i=qAc i:=rfl
theorem zdf (N:Nat) (i:Nat):(qfD N).lp i=qBU i:=rfl
theorem q0P (N:Nat) (i:Nat):(qfD N).ex i=qJy i:=rfl
theorem qXm (N:Nat) (i:Nat):(qfD N).rg i=qNc i:=rfl
theorem qVI (N:Nat) (i:Nat):(qfD N).jn i=qCH i:=rfl
theorem q99 (N:Nat):(qfD N).fuel=N:=rfl
theorem q9z (N:Nat) (v0:Val Y33) (v1:Val Y33):qd tt qpc (qfD N) (Tryz.f182.body.getD .skip) (qo tt true [i33,i4] [.cell 4 33,.tmp 5]) (qt [i33,i33] 33 (v0,v1,()))=qwF N v0 v1:=by
 rw [qwF];unfold Tryz.f182
 simp (maxSteps:=10000000) -implicitDefEqProofs [q1o,qAc,zdf,qBU,q0P,qJy,qXm,qNc,qVI,qCH,q99,zbD,q2p,zdb,q41,qVz,q6E,q6k,qaz,qBf,qc6]
 try rfl
noncomputable def qyj (N:Nat) (v0:Val Y33) (v1:Val Y33):Option (qb [i33,i4]):=chk (qcg v0) (bif (!((qD v0):Bool))then (some (((0:Int),([]:List (Val qa))),false,()))else (chk (qcg v1) (bif (!((qD v1):Bool))then (some (((0:Int),([]:List (Val qa))),false,()))else (bif (!(decide ((v0.1:Int)=(v1.1:Int))))then (some (((0:Int),([]:List (Val qa))),false,()))else (chk (([]:List (Val qa)).length+(v0.2:List (Val qa)).length≤1048576) (chk ((([]:List (Val qa))++(v0.2:List (Val qa))).length+(v1.2:List (Val qa)).length≤1048576) (chk (qaK (v0.1:Int) ((([]:List (Val qa))++(v0.2:List (Val qa)))++(v1.2:List (Val qa)))) (bif (decide ((16:Int)<(((qm (v0.1:Int) ((([]:List (Val qa))++(v0.2:List (Val qa)))++(v1.2:List (Val qa)))).2:List (Val qa)).length:Int)))then (some (((0:Int),([]:List (Val qa))),false,()))else (some ((qm (v0.1:Int) ((([]:List (Val qa))++(v0.2:List (Val qa)))++(v1.2:List (Val qa)))),true,()))))))))))
def qvC:Gam:=[(104,qcv),(150,q9)]
theorem q9W:Gam.get qvC 104=some qcv:=rfl
theorem q4u:Gam.get qvC 150=some q9:=rfl
def qxu:Nm:=⟨[false,false,false,false,true,false,true],[],false⟩
theorem q3o:qxu.zero=false:=rfl
theorem q6x:qxu.fix=[]:=rfl
theorem qXc:qxu.keep=[false,false,false,false,true,false,true]:=rfl
def qAR:Nat→Tree:=fun i=>if i=3 then .keep 0 (.keep 1 (.keep 3 (.keep 4 (.keep 6 (.keep 7 (.alt 2 (.alt 5 (.alt 8 (.alt 9 (.alt 10 (.alt 11 .done .stop) .stop) (.alt 10 (.alt 9 (.alt 11 .done .stop) .stop) .stop)) (.alt 10 (.alt 8 (.alt 9 (.alt 11 .done .stop) .stop) .stop) .stop)) (.alt 10 (.alt 5 (.alt 8 (.alt 9 (.alt 11 .done .stop) .stop) .stop) .stop) .stop)) (.alt 10 (.alt 2 (.alt 5 (.alt 8 (.alt 9 (.alt 11 .done .stop) .stop) .stop) .stop) .stop) .stop)))))))else .done
def qJw:Nat→Nm:=fun _=>⟨[],[],false⟩
def qJB:Nat→Option Jn:=fun _=>none
def qOq:Nat→Option Nm:=fun _=>none
def qIv:Nat→Option Nm:=fun i=>if i=3 then some qxu else none
theorem qVK:qj qAR (Tryz.f178.body.getD .skip)=true:=by kernel_rfl
def qgc (N:Nat):Tab:={tr:=qAR,lp:=qJw,ex:=qOq,rg:=qIv,jn:=qJB,fuel:=N}
theorem zcj (N:Nat):(qgc N).pins=false:=rfl
theorem qWc (N:Nat):qn Tryz.prog (qgc N):=qr fun _=>rfl
theorem qZE (N:Nat) (i:Nat):(qgc N).tr i=qAR i:=rfl
theorem q4O (N:Nat) (i:Nat):(qgc N).lp i=qJw i:=rfl
theorem q7y (N:Nat) (i:Nat):(qgc N).ex i=qOq i:=rfl
theorem q2R (N:Nat) (i:Nat):(qgc N).rg i=qIv i:=rfl
theorem q6G (N:Nat) (i:Nat):(qgc N).jn i=qJB i:=rfl
theorem q0K (N:Nat):(qgc N).fuel=N:=rfl
theorem q0S (N:Nat) (v0:Val Y33) (v1:Val Y33):qd tt qvC (qgc N) (Tryz.f178.body.getD .skip) (qo tt false [i33,i4] [.cell 4 33,.tmp 5]) (qt [i33,i33] 39 (v0,v1,()))=qyj N v0 v1:=by
 rw [qyj];unfold Tryz.f178
 simp (maxSteps:=10000000) -implicitDefEqProofs [qZE,qAR,q4O,qJw,q7y,qOq,q2R,qIv,q6G,qJB,q0K,zcj,q6x,qXc,q3o,q9W,q4u,qcv,q9]
 try rfl
theorem qBF {a b:Val Y33} (ha:qD a=true) (hb:qD b=true) (h:(a.1:Int)=(b.1:Int)):okL a.1 (List.append (α:=Val qa) a.2 b.2)∧(List.append (α:=Val qa) a.2 b.2).length≤32:=by
 obtain ⟨a1,a2,a3⟩:=qaD ha
 obtain ⟨b1,b2,b3⟩:=qaD hb
 have e:(List.append (α:=Val qa) a.2 b.2).length=List.length (α:=Val qa) a.2+List.length (α:=Val qa) b.2:=List.length_append
 refine ⟨⟨a1,by omega,fun x hx=> ?_⟩,by omega⟩
 rcases List.mem_append.1 hx with hx | hx
 ·exact a3 x hx
 ·exact ⟨(b3 x hx).1,(b3 x hx).2.trans h.symm⟩
theorem zaY (a b:Val Y33): ∃N,qwF N a b=some ((qaw a b).1,(qaw a b).2,()):=⟨0,by
 rw [qwF]
 unfold qaw
 cases ha:qD a with
 | false=>rfl
 | true=>
   cases hb:qD b with
   | false=>rfl
   | true=>
     by_cases h:(a.1:Int)=(b.1:Int)
     ·obtain ⟨h1,h2⟩:=qBF ha hb h
      have e:qhA ([(a.2:List (Val qa)),(b.2:List (Val qa))]:List (Val (.slice 108 qa)))=List.append (α:=Val qa) a.2 b.2:=by simp [qhA]<;>rfl
      rw [e,qe (show qyk _ from ⟨by simp,by rw [e];omega⟩),qe (show qiL _ _ from h1)]
      simp only [h,decide_true,Bool.not_true,cond_false,Bool.and_self,cond_true]
      try rfl
     ·simp only [h,decide_false,Bool.not_true,Bool.not_false,cond_false,Bool.and_self,Bool.and_false,cond_true]
      try rfl⟩
theorem zai:Sound Tryz.prog 182 qu2:=qu (tt:=tt) (Γ:=qpc) hT (qf qrl (qf q5K (qf qQb qq))) hm (fn:=Tryz.f182) Tryz.func182 (c:=Tryz.f182.body.getD .skip) (by kernel_rfl) (by kernel_rfl) fun x hx=>by
 obtain ⟨N,h⟩:=zaY x.1 x.2.1
 exact ⟨qfD N,qWZ,qv _,q4R N,(q9z N x.1 x.2.1).trans h⟩
theorem qXZ (a b:Val Y33) (h:qwh a b): ∃N,qyj N a b=some ((qaw a b).1,(qaw a b).2,()):=⟨0,by
 rw [qyj,qe h.1,qe h.2]
 unfold qaw
 cases ha:qD a with
 | false=>rfl
 | true=>
   cases hb:qD b with
   | false=>rfl
   | true=>
     by_cases h:(a.1:Int)=(b.1:Int)
     ·obtain ⟨h1,h2⟩:=qBF ha hb h
      have e:(([]:List (Val qa))++(a.2:List (Val qa)))++(b.2:List (Val qa))=List.append (α:=Val qa) a.2 b.2:=by simp<;>rfl
      have e2:(List.append (α:=Val qa) a.2 b.2).length=List.length (α:=Val qa) a.2+List.length (α:=Val qa) b.2:=List.length_append
      rw [e,qe (by simp;omega),qe (by simp;omega),qe (show qaK _ _ from h1)]
      simp only [h,decide_true,Bool.not_true,cond_false,Bool.and_self,cond_true]
      unfold qay
      rw [←h]
      cases decide ((16:Int)<(List.length (α:=Val qa) (qm a.1 (List.append (α:=Val qa) a.2 b.2)).2:Int))<;>rfl
     ·simp only [h,decide_false,Bool.not_true,Bool.not_false,cond_false,Bool.and_self,Bool.and_false,cond_true]
      try rfl⟩
theorem qXs:Sound Tryz.prog 178 qyC:=qu (tt:=tt) (Γ:=qvC) hT (qf qON (qf qtd qq)) hm (fn:=Tryz.f178) Tryz.func178 (c:=Tryz.f178.body.getD .skip) (by kernel_rfl) (by kernel_rfl) fun x hx=>by
 obtain ⟨N,h⟩:=qXZ x.1 x.2.1 hx
 exact ⟨qgc N,qVK,qv _,qWc N,(q0S N x.1 x.2.1).trans h⟩
end Go.T
