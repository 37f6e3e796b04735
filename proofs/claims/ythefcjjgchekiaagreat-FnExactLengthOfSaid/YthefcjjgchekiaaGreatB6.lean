/- Meeting and cutting cells. -/
import Derived.Test.YthefcjjgchekiaaGreatB5
set_option linter.unusedSimpArgs false
set_option linter.unusedVariables false
namespace Go.T
open Go Go.Proofs
set_option maxHeartbeats 4000000
set_option maxRecDepth 100000
def qbn (d:Int) (l:List (Val qa)):Val Y33×Bool:=bif decide ((16:Int)<(List.length (α:=Val qa) (qv d l).2:Int))then (((0:Int),[]),false)else (qv d l,true)
def qhL (d:Int) (l:List (Val qa)):Prop:=okL d l
def qdz:G:={ps:=[i3,i31],rs:=[i33,i4],dp:=true,pre:=fun x=>qhL x.1 x.2.1,fn:=fun x=>((qbn x.1 x.2.1).1,(qbn x.1 x.2.1).2,())}
noncomputable def qFD (N:Nat) (v0:Int) (v1:List (Val qa)):Option (qc [i33,i4]):=chk (qaF v0 v1) (bif (decide ((16:Int)<(((qv v0 v1).2:List (Val qa)).length:Int)))then (some (((0:Int),([]:List (Val qa))),false,()))else (some ((((qv v0 v1).1:Int),((qv v0 v1).2:List (Val qa))),true,())))
def qRh:Gam:=[(230,qbz)]
theorem zxO:Gam.get qRh 230=some qbz:=rfl
def qHq:Nat→Tree:=fun _=> .done
def qJq:Nat→Nm:=fun _=>⟨[],[],false⟩
def qTl:Nat→Option Jn:=fun _=>none
def qMe:Nat→Option Nm:=fun _=>none
def qXs:Nat→Option Nm:=fun _=>none
theorem zyd:qh qHq (Tryz.f255.body.getD .skip)=true:=by kernel_rfl
def qfE (N:Nat):Tab:={tr:=qHq,lp:=qJq,ex:=qMe,rg:=qXs,jn:=qTl,fuel:=N}
theorem zgJ (N:Nat):(qfE N).pins=false:=rfl
theorem zrK (N:Nat):qk Tryz.prog (qfE N):=qo fun _=>rfl
theorem zq9 (N:Nat) (i:Nat):(qfE N).tr i=qHq i:=rfl
theorem zde (N:Nat) (i:Nat):(qfE N).lp i=qJq i:=rfl
theorem zgx (N:Nat) (i:Nat):(qfE N).ex i=qMe i:=rfl
theorem zt3 (N:Nat) (i:Nat):(qfE N).rg i=qXs i:=rfl
theorem zzM (N:Nat) (i:Nat):(qfE N).jn i=qTl i:=rfl
theorem zvq (N:Nat):(qfE N).fuel=N:=rfl
theorem zuT (N:Nat) (v0:Int) (v1:List (Val qa)):qf tt qRh (qfE N) (Tryz.f255.body.getD .skip) (qm tt true [i33,i4] [.cell 4 33,.tmp 5]) (qp [i3,i31] 16 (v0,v1,()))=qFD N v0 v1:=by
 rw [qFD];unfold Tryz.f255
 simp (maxSteps:=10000000) -implicitDefEqProofs [zq9,qHq,zde,qJq,zgx,qMe,zt3,qXs,zzM,qTl,zvq,zgJ,zxO,qbz]
 try rfl
theorem zs2 (d:Int) (l:List (Val qa)) (h:qhL d l): ∃N,qFD N d l=some ((qbn d l).1,(qbn d l).2,()):=⟨0,by
 rw [qFD,qe (show qaF d l from h)]
 unfold qbn
 cases decide ((16:Int)<(List.length (α:=Val qa) (qv d l).2:Int))<;>rfl⟩
theorem q9C:Sound Tryz.prog 255 qdz:=qr (tt:=tt) (Γ:=qRh) hT (qg qrK qn) hm (fn:=Tryz.f255) Tryz.func255 (c:=Tryz.f255.body.getD .skip) (by kernel_rfl) (by kernel_rfl) fun x hx=>by
 obtain ⟨N,h⟩:=zs2 x.1 x.2.1 hx
 exact ⟨qfE N,zyd,qu _,zrK N,(zuT N x.1 x.2.1).trans h⟩
def qZ (a b:Val Y33):Val Y33×Bool:=bif qz a&&qz b&&decide ((a.1:Int)=(b.1:Int))then qbn a.1 (List.append (α:=Val qa) a.2 b.2)else (((0:Int),[]),false)
def qnz (a b:Val Y33):Prop:=qbf a∧qbf b
def qeD:G:={ps:=[i33,i33],rs:=[i33,i4],dp:=true,pre:=fun _=>True,fn:=fun x=>((qZ x.1 x.2.1).1,(qZ x.1 x.2.1).2,())}
def qe1:G:={ps:=[i33,i33],rs:=[i33,i4],dp:=false,pre:=fun x=>qnz x.1 x.2.1,fn:=fun x=>((qZ x.1 x.2.1).1,(qZ x.1 x.2.1).2,())}
noncomputable def qGH (N:Nat) (v0:Val Y33) (v1:Val Y33):Option (qc [i33,i4]):=bif (!((qz v0):Bool))then (some (((0:Int),([]:List (Val qa))),false,()))else (bif (!((qz v1):Bool))then (some (((0:Int),([]:List (Val qa))),false,()))else (bif (!(decide ((v0.1:Int)=(v1.1:Int))))then (some (((0:Int),([]:List (Val qa))),false,()))else (chk (qFZ ([(v0.2:List (Val qa)),(v1.2:List (Val qa))]:List (Val (.slice 108 qa)))) (chk (qhL (v0.1:Int) ((qhu ([(v0.2:List (Val qa)),(v1.2:List (Val qa))]:List (Val (.slice 108 qa)))):List (Val qa))) (some (((((qbn (v0.1:Int) ((qhu ([(v0.2:List (Val qa)),(v1.2:List (Val qa))]:List (Val (.slice 108 qa)))):List (Val qa))).1).1:Int),(((qbn (v0.1:Int) ((qhu ([(v0.2:List (Val qa)),(v1.2:List (Val qa))]:List (Val (.slice 108 qa)))):List (Val qa))).1).2:List (Val qa))),((qbn (v0.1:Int) ((qhu ([(v0.2:List (Val qa)),(v1.2:List (Val qa))]:List (Val (.slice 108 qa)))):List (Val qa))).2:Bool),()))))))
def qyl:Gam:=[(199,qaB),(219,qBS),(255,qdz)]
theorem zr6:Gam.get qyl 199=some qaB:=rfl
theorem zmJ:Gam.get qyl 219=some qBS:=rfl
theorem zvE:Gam.get qyl 255=some qdz:=rfl
def qE7:Nm:=⟨[false,false,false,false,true,true],[],false⟩
theorem zhF:qE7.zero=false:=rfl
theorem zra:qE7.fix=[]:=rfl
theorem zhf:qE7.keep=[false,false,false,false,true,true]:=rfl
def qCF:Nat→Tree:=fun i=>if i=3 then .quiet 2 (.quiet 3 (.quiet 4 (.quiet 5 (.alt 0 (.alt 1 (.alt 6 (.alt 7 (.alt 8 (.quiet 9 (.quiet 10 (.alt 11 (.quiet 12 .done) .stop))) .stop) .stop) .stop) (.alt 6 (.alt 1 (.alt 7 (.alt 8 (.quiet 9 (.quiet 10 (.alt 11 (.quiet 12 .done) .stop))) .stop) .stop) (.alt 7 (.quiet 1 (.alt 8 (.quiet 9 (.quiet 10 (.alt 11 (.quiet 12 .done) .stop))) .stop)) .stop)) .stop)) (.alt 6 (.alt 0 (.alt 1 (.alt 7 (.alt 8 (.quiet 9 (.quiet 10 (.alt 11 (.quiet 12 .done) .stop))) .stop) .stop) (.alt 7 (.quiet 1 (.alt 8 (.quiet 9 (.quiet 10 (.alt 11 (.quiet 12 .done) .stop))) .stop)) .stop)) (.alt 7 (.quiet 0 (.quiet 1 (.alt 8 (.quiet 9 (.quiet 10 (.alt 11 (.quiet 12 .done) .stop))) .stop))) .stop)) .stop)))))else .done
def qLk:Nat→Nm:=fun _=>⟨[],[],false⟩
def qSN:Nat→Option Jn:=fun _=>none
def qNW:Nat→Option Nm:=fun _=>none
def qR0:Nat→Option Nm:=fun i=>if i=3 then some qE7 else none
theorem zbO:qh qCF (Tryz.f182.body.getD .skip)=true:=by kernel_rfl
def qfZ (N:Nat):Tab:={tr:=qCF,lp:=qLk,ex:=qNW,rg:=qR0,jn:=qSN,fuel:=N}
theorem zjn (N:Nat):(qfZ N).pins=false:=rfl
theorem zhA (N:Nat):qk Tryz.prog (qfZ N):=qo fun _=>rfl
theorem zdo (N:Nat) (i:Nat):(qfZ N).tr i=qCF i:=rfl
theorem zsx (N:Nat) (i:Nat):(qfZ N).lp i=qLk i:=rfl
theorem zmA (N:Nat) (i:Nat):(qfZ N).ex i=qNW i:=rfl
theorem zqn (N:Nat) (i:Nat):(qfZ N).rg i=qR0 i:=rfl
theorem zj9 (N:Nat) (i:Nat):(qfZ N).jn i=qSN i:=rfl
theorem zpi (N:Nat):(qfZ N).fuel=N:=rfl
theorem zk7 (N:Nat) (v0:Val Y33) (v1:Val Y33):qf tt qyl (qfZ N) (Tryz.f182.body.getD .skip) (qm tt true [i33,i4] [.cell 4 33,.tmp 5]) (qp [i33,i33] 33 (v0,v1,()))=qGH N v0 v1:=by
 rw [qGH];unfold Tryz.f182
 simp (maxSteps:=10000000) -implicitDefEqProofs [zdo,qCF,zsx,qLk,zmA,qNW,zqn,qR0,zj9,qSN,zpi,zjn,zra,zhf,zhF,zr6,zmJ,zvE,qaB,qBS,qdz]
 try rfl
noncomputable def qEu (N:Nat) (v0:Val Y33) (v1:Val Y33):Option (qc [i33,i4]):=chk (qbf v0) (bif (!((qz v0):Bool))then (some (((0:Int),([]:List (Val qa))),false,()))else (chk (qbf v1) (bif (!((qz v1):Bool))then (some (((0:Int),([]:List (Val qa))),false,()))else (bif (!(decide ((v0.1:Int)=(v1.1:Int))))then (some (((0:Int),([]:List (Val qa))),false,()))else (chk (([]:List (Val qa)).length+(v0.2:List (Val qa)).length≤1048576) (chk ((([]:List (Val qa))++(v0.2:List (Val qa))).length+(v1.2:List (Val qa)).length≤1048576) (chk (qaF (v0.1:Int) ((([]:List (Val qa))++(v0.2:List (Val qa)))++(v1.2:List (Val qa)))) (bif (decide ((16:Int)<(((qv (v0.1:Int) ((([]:List (Val qa))++(v0.2:List (Val qa)))++(v1.2:List (Val qa)))).2:List (Val qa)).length:Int)))then (some (((0:Int),([]:List (Val qa))),false,()))else (some ((qv (v0.1:Int) ((([]:List (Val qa))++(v0.2:List (Val qa)))++(v1.2:List (Val qa)))),true,()))))))))))
def qFw:Gam:=[(104,qbt),(150,qai)]
theorem zAU:Gam.get qFw 104=some qbt:=rfl
theorem zcp:Gam.get qFw 150=some qai:=rfl
def qD0:Nm:=⟨[false,false,false,false,true,false,true],[],false⟩
theorem zib:qD0.zero=false:=rfl
theorem ziv:qD0.fix=[]:=rfl
theorem zwc:qD0.keep=[false,false,false,false,true,false,true]:=rfl
def qHt:Nat→Tree:=fun i=>if i=3 then .keep 0 (.keep 1 (.keep 3 (.keep 4 (.keep 6 (.keep 7 (.alt 2 (.alt 5 (.alt 8 (.alt 9 (.alt 10 (.alt 11 .done .stop) .stop) (.alt 10 (.alt 9 (.alt 11 .done .stop) .stop) .stop)) (.alt 10 (.alt 8 (.alt 9 (.alt 11 .done .stop) .stop) .stop) .stop)) (.alt 10 (.alt 5 (.alt 8 (.alt 9 (.alt 11 .done .stop) .stop) .stop) .stop) .stop)) (.alt 10 (.alt 2 (.alt 5 (.alt 8 (.alt 9 (.alt 11 .done .stop) .stop) .stop) .stop) .stop) .stop)))))))else .done
def qQE:Nat→Nm:=fun _=>⟨[],[],false⟩
def qHV:Nat→Option Jn:=fun _=>none
def qM0:Nat→Option Nm:=fun _=>none
def qKS:Nat→Option Nm:=fun i=>if i=3 then some qD0 else none
theorem zxu:qh qHt (Tryz.f178.body.getD .skip)=true:=by kernel_rfl
def qf5 (N:Nat):Tab:={tr:=qHt,lp:=qQE,ex:=qM0,rg:=qKS,jn:=qHV,fuel:=N}
theorem zmR (N:Nat):(qf5 N).pins=false:=rfl
theorem ziG (N:Nat):qk Tryz.prog (qf5 N):=qo fun _=>rfl
theorem zpH (N:Nat) (i:Nat):(qf5 N).tr i=qHt i:=rfl
theorem ziQ (N:Nat) (i:Nat):(qf5 N).lp i=qQE i:=rfl
theorem zmB (N:Nat) (i:Nat):(qf5 N).ex i=qM0 i:=rfl
theorem zcZ (N:Nat) (i:Nat):(qf5 N).rg i=qKS i:=rfl
theorem zhi (N:Nat) (i:Nat):(qf5 N).jn i=qHV i:=rfl
theorem zw9 (N:Nat):(qf5 N).fuel=N:=rfl
theorem zph (N:Nat) (v0:Val Y33) (v1:Val Y33):qf tt qFw (qf5 N) (Tryz.f178.body.getD .skip) (qm tt false [i33,i4] [.cell 4 33,.tmp 5]) (qp [i33,i33] 39 (v0,v1,()))=qEu N v0 v1:=by
 rw [qEu];unfold Tryz.f178
 simp (maxSteps:=10000000) -implicitDefEqProofs [zpH,qHt,ziQ,qQE,zmB,qM0,zcZ,qKS,zhi,qHV,zw9,zmR,ziv,zwc,zib,zAU,zcp,qbt,qai]
 try rfl
theorem qGR {a b:Val Y33} (ha:qz a=true) (hb:qz b=true) (h:(a.1:Int)=(b.1:Int)):okL a.1 (List.append (α:=Val qa) a.2 b.2)∧(List.append (α:=Val qa) a.2 b.2).length≤32:=by
 obtain ⟨a1,a2,a3⟩:=qaG ha
 obtain ⟨b1,b2,b3⟩:=qaG hb
 have e:(List.append (α:=Val qa) a.2 b.2).length=List.length (α:=Val qa) a.2+List.length (α:=Val qa) b.2:=List.length_append
 refine ⟨⟨a1,by omega,fun x hx=> ?_⟩,by omega⟩
 rcases List.mem_append.1 hx with hx | hx
 ·exact a3 x hx
 ·exact ⟨(b3 x hx).1,(b3 x hx).2.trans h.symm⟩
theorem zlI (a b:Val Y33): ∃N,qGH N a b=some ((qZ a b).1,(qZ a b).2,()):=⟨0,by
 rw [qGH]
 unfold qZ
 cases ha:qz a with
 | false=>rfl
 | true=>
   cases hb:qz b with
   | false=>rfl
   | true=>
     by_cases h:(a.1:Int)=(b.1:Int)
     ·obtain ⟨h1,h2⟩:=qGR ha hb h
      have e:qhu ([(a.2:List (Val qa)),(b.2:List (Val qa))]:List (Val (.slice 108 qa)))=List.append (α:=Val qa) a.2 b.2:=by simp [qhu]<;>rfl
      rw [e,qe (show qFZ _ from ⟨by simp,by rw [e];omega⟩),qe (show qhL _ _ from h1)]
      simp only [h,decide_true,Bool.not_true,cond_false,Bool.and_self,cond_true]
      try rfl
     ·simp only [h,decide_false,Bool.not_true,Bool.not_false,cond_false,Bool.and_self,Bool.and_false,cond_true]
      try rfl⟩
theorem zai:Sound Tryz.prog 182 qeD:=qr (tt:=tt) (Γ:=qyl) hT (qg qjP (qg zeq (qg q9C qn))) hm (fn:=Tryz.f182) Tryz.func182 (c:=Tryz.f182.body.getD .skip) (by kernel_rfl) (by kernel_rfl) fun x hx=>by
 obtain ⟨N,h⟩:=zlI x.1 x.2.1
 exact ⟨qfZ N,zbO,qu _,zhA N,(zk7 N x.1 x.2.1).trans h⟩
theorem zpy (a b:Val Y33) (h:qnz a b): ∃N,qEu N a b=some ((qZ a b).1,(qZ a b).2,()):=⟨0,by
 rw [qEu,qe h.1,qe h.2]
 unfold qZ
 cases ha:qz a with
 | false=>rfl
 | true=>
   cases hb:qz b with
   | false=>rfl
   | true=>
     by_cases h:(a.1:Int)=(b.1:Int)
     ·obtain ⟨h1,h2⟩:=qGR ha hb h
      have e:(([]:List (Val qa))++(a.2:List (Val qa)))++(b.2:List (Val qa))=List.append (α:=Val qa) a.2 b.2:=by simp<;>rfl
      have e2:(List.append (α:=Val qa) a.2 b.2).length=List.length (α:=Val qa) a.2+List.length (α:=Val qa) b.2:=List.length_append
      rw [e,qe (by simp;omega),qe (by simp;omega),qe (show qaF _ _ from h1)]
      simp only [h,decide_true,Bool.not_true,cond_false,Bool.and_self,cond_true]
      unfold qbn
      rw [←h]
      cases decide ((16:Int)<(List.length (α:=Val qa) (qv a.1 (List.append (α:=Val qa) a.2 b.2)).2:Int))<;>rfl
     ·simp only [h,decide_false,Bool.not_true,Bool.not_false,cond_false,Bool.and_self,Bool.and_false,cond_true]
      try rfl⟩
theorem q8V:Sound Tryz.prog 178 qe1:=qr (tt:=tt) (Γ:=qFw) hT (qg qsA (qg qhd qn)) hm (fn:=Tryz.f178) Tryz.func178 (c:=Tryz.f178.body.getD .skip) (by kernel_rfl) (by kernel_rfl) fun x hx=>by
 obtain ⟨N,h⟩:=zpy x.1 x.2.1 hx
 exact ⟨qf5 N,zxu,qu _,ziG N,(zph N x.1 x.2.1).trans h⟩
end Go.T
