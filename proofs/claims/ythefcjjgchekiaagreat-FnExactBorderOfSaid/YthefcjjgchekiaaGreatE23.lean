/- Interiors and borders. -/
import Derived.Test.YthefcjjgchekiaaGreatE22
set_option linter.unusedSimpArgs false
set_option linter.unusedVariables false
namespace Go.T
open Go Go.Proofs
set_option maxHeartbeats 4000000
set_option maxRecDepth 100000
def qV (r:Val Y50):Val Y50×Bool:=bif (qab r).2 then (bif (qF (qab r).1).2 then qab (qF (qab r).1).1 else qa5)else qa5
def qpp (r:Val Y50):Prop:=qbs r
def g60:G:={ps:=[i50],rs:=[i50,i4],dp:=true,pre:=fun _=>True,fn:=fun x=>((qV x.1).1,(qV x.1).2,())}
noncomputable def m60 (N:Nat) (v0:Val Y50):Option (qc [i50,i4]):=bif (!((qab v0).2:Bool))then (some (((0:Int),([]:List (Val Y33))),false,()))else (bif (!((qF ((((qab v0).1).1:Int),(((qab v0).1).2:List (Val Y33)))).2:Bool))then (some (((0:Int),([]:List (Val Y33))),false,()))else (some (((((qab ((((qF ((((qab v0).1).1:Int),(((qab v0).1).2:List (Val Y33)))).1).1:Int),(((qF ((((qab v0).1).1:Int),(((qab v0).1).2:List (Val Y33)))).1).2:List (Val Y33)))).1).1:Int),(((qab ((((qF ((((qab v0).1).1:Int),(((qab v0).1).2:List (Val Y33)))).1).1:Int),(((qF ((((qab v0).1).1:Int),(((qab v0).1).2:List (Val Y33)))).1).2:List (Val Y33)))).1).2:List (Val Y33))),((qab ((((qF ((((qab v0).1).1:Int),(((qab v0).1).2:List (Val Y33)))).1).1:Int),(((qF ((((qab v0).1).1:Int),(((qab v0).1).2:List (Val Y33)))).1).2:List (Val Y33)))).2:Bool),())))
def Γ60:Gam:=[(41,g41),(54,g54)]
theorem zkO:Gam.get Γ60 41=some g41:=rfl
theorem zwA:Gam.get Γ60 54=some g54:=rfl
def qF4:Nat→Tree:=fun _=> .done
def qKU:Nat→Nm:=fun _=>⟨[],[],false⟩
def q2m:Nat→Option Jn:=fun _=>none
def qWd:Nat→Option Nm:=fun _=>none
def q1W:Nat→Option Nm:=fun _=>none
theorem p60:qh qF4 (Tryz.f60.body.getD .skip)=true:=by kernel_rfl
def T60 (N:Nat):Tab:={tr:=qF4,lp:=qKU,ex:=qWd,rg:=q1W,jn:=q2m,fuel:=N}
theorem zuQ (N:Nat):(T60 N).pins=false:=rfl
theorem zhs (N:Nat):qk Tryz.prog (T60 N):=qo fun _=>rfl
theorem zmq (N:Nat) (i:Nat):(T60 N).tr i=qF4 i:=rfl
theorem zrs (N:Nat) (i:Nat):(T60 N).lp i=qKU i:=rfl
theorem zBk (N:Nat) (i:Nat):(T60 N).ex i=qWd i:=rfl
theorem zxt (N:Nat) (i:Nat):(T60 N).rg i=q1W i:=rfl
theorem zvF (N:Nat) (i:Nat):(T60 N).jn i=q2m i:=rfl
theorem ze7 (N:Nat):(T60 N).fuel=N:=rfl
theorem zfm (N:Nat) (v0:Val Y50):qf tt Γ60 (T60 N) (Tryz.f60.body.getD .skip) (qm tt true [i50,i4] [.cell 2 50,.tmp 3]) (qp [i50] 27 (v0,()))=m60 N v0:=by
 rw [m60];unfold Tryz.f60
 simp (maxSteps:=10000000) -implicitDefEqProofs [zmq,qF4,zrs,qKU,zBk,qWd,zxt,q1W,zvF,q2m,ze7,zuQ,zkO,zwA,g41,g54]
 try rfl
def g59:G:={ps:=[i50],rs:=[i50,i4],dp:=false,pre:=fun x=>qpp x.1,fn:=fun x=>((qV x.1).1,(qV x.1).2,())}
noncomputable def m59 (N:Nat) (v0:Val Y50):Option (qc [i50,i4]):=chk (qoR v0) (chk (qia ((qab v0).1)) (bif (!((qab v0).2:Bool))then (some (((0:Int),([]:List (Val Y33))),false,()))else (bif (!((qF ((qab v0).1)).2:Bool))then (some (((0:Int),([]:List (Val Y33))),false,()))else (chk (qoR ((qF ((qab v0).1)).1)) (some ((qab ((qF ((qab v0).1)).1)).1,((qab ((qF ((qab v0).1)).1)).2:Bool),()))))))
def Γ59:Gam:=[(40,g40),(53,g53)]
theorem zqW:Gam.get Γ59 40=some g40:=rfl
theorem zyD:Gam.get Γ59 53=some g53:=rfl
def qBe:Nat→Tree:=fun _=> .done
def qIG:Nat→Nm:=fun _=>⟨[],[],false⟩
def qLG:Nat→Option Jn:=fun _=>none
def qUG:Nat→Option Nm:=fun _=>none
def qUY:Nat→Option Nm:=fun _=>none
theorem p59:qh qBe (Tryz.f59.body.getD .skip)=true:=by kernel_rfl
def T59 (N:Nat):Tab:={tr:=qBe,lp:=qIG,ex:=qUG,rg:=qUY,jn:=qLG,fuel:=N}
theorem zuM (N:Nat):(T59 N).pins=false:=rfl
theorem zpG (N:Nat):qk Tryz.prog (T59 N):=qo fun _=>rfl
theorem zbb (N:Nat) (i:Nat):(T59 N).tr i=qBe i:=rfl
theorem zBg (N:Nat) (i:Nat):(T59 N).lp i=qIG i:=rfl
theorem zjF (N:Nat) (i:Nat):(T59 N).ex i=qUG i:=rfl
theorem zt0 (N:Nat) (i:Nat):(T59 N).rg i=qUY i:=rfl
theorem zAn (N:Nat) (i:Nat):(T59 N).jn i=qLG i:=rfl
theorem zkz (N:Nat):(T59 N).fuel=N:=rfl
theorem zhx (N:Nat) (v0:Val Y50):qf tt Γ59 (T59 N) (Tryz.f59.body.getD .skip) (qm tt false [i50,i4] [.cell 2 50,.tmp 3]) (qp [i50] 34 (v0,()))=m59 N v0:=by
 rw [m59];unfold Tryz.f59
 simp (maxSteps:=10000000) -implicitDefEqProofs [zbb,qBe,zBg,qIG,zjF,qUG,zt0,qUY,zAn,qLG,zkz,zuM,zqW,zyD,g40,g53]
 try rfl
def qah (r:Val Y50):Val Y50×Bool:=bif (qF r).2&&(qV r).2 then qH (qF r).1 (qV r).1 else qa5
def qEF (r:Val Y50):Prop:=qbs r
def g67:G:={ps:=[i50],rs:=[i50,i4],dp:=true,pre:=fun _=>True,fn:=fun x=>((qah x.1).1,(qah x.1).2,())}
noncomputable def m67 (N:Nat) (v0:Val Y50):Option (qc [i50,i4]):=bif (!((qF v0).2:Bool))then (some (((0:Int),([]:List (Val Y33))),false,()))else (bif (!((qV v0).2:Bool))then (some (((0:Int),([]:List (Val Y33))),false,()))else (some (((((qH ((((qF v0).1).1:Int),(((qF v0).1).2:List (Val Y33))) ((((qV v0).1).1:Int),(((qV v0).1).2:List (Val Y33)))).1).1:Int),(((qH ((((qF v0).1).1:Int),(((qF v0).1).2:List (Val Y33))) ((((qV v0).1).1:Int),(((qV v0).1).2:List (Val Y33)))).1).2:List (Val Y33))),((qH ((((qF v0).1).1:Int),(((qF v0).1).2:List (Val Y33))) ((((qV v0).1).1:Int),(((qV v0).1).2:List (Val Y33)))).2:Bool),())))
def Γ67:Gam:=[(41,g41),(45,g45),(60,g60)]
theorem za8:Gam.get Γ67 41=some g41:=rfl
theorem ziJ:Gam.get Γ67 45=some g45:=rfl
theorem zem:Gam.get Γ67 60=some g60:=rfl
def qA6:Nat→Tree:=fun _=> .done
def qVq:Nat→Nm:=fun _=>⟨[],[],false⟩
def q0X:Nat→Option Jn:=fun _=>none
def qN2:Nat→Option Nm:=fun _=>none
def qKW:Nat→Option Nm:=fun _=>none
theorem p67:qh qA6 (Tryz.f67.body.getD .skip)=true:=by kernel_rfl
def T67 (N:Nat):Tab:={tr:=qA6,lp:=qVq,ex:=qN2,rg:=qKW,jn:=q0X,fuel:=N}
theorem zlu (N:Nat):(T67 N).pins=false:=rfl
theorem zeO (N:Nat):qk Tryz.prog (T67 N):=qo fun _=>rfl
theorem zlm (N:Nat) (i:Nat):(T67 N).tr i=qA6 i:=rfl
theorem zz7 (N:Nat) (i:Nat):(T67 N).lp i=qVq i:=rfl
theorem zef (N:Nat) (i:Nat):(T67 N).ex i=qN2 i:=rfl
theorem zwZ (N:Nat) (i:Nat):(T67 N).rg i=qKW i:=rfl
theorem zbB (N:Nat) (i:Nat):(T67 N).jn i=q0X i:=rfl
theorem zyF (N:Nat):(T67 N).fuel=N:=rfl
theorem zAj (N:Nat) (v0:Val Y50):qf tt Γ67 (T67 N) (Tryz.f67.body.getD .skip) (qm tt true [i50,i4] [.cell 2 50,.tmp 3]) (qp [i50] 28 (v0,()))=m67 N v0:=by
 rw [m67];unfold Tryz.f67
 simp (maxSteps:=10000000) -implicitDefEqProofs [zlm,qA6,zz7,qVq,zef,qN2,zwZ,qKW,zbB,q0X,zyF,zlu,za8,ziJ,zem,g41,g45,g60]
 try rfl
def g66:G:={ps:=[i50],rs:=[i50,i4],dp:=false,pre:=fun x=>qEF x.1,fn:=fun x=>((qah x.1).1,(qah x.1).2,())}
noncomputable def m66 (N:Nat) (v0:Val Y50):Option (qc [i50,i4]):=chk (qia v0) (chk (qpp v0) (bif (!((qF v0).2:Bool))then (some (((0:Int),([]:List (Val Y33))),false,()))else (bif (!((qV v0).2:Bool))then (some (((0:Int),([]:List (Val Y33))),false,()))else (chk (qeE ((qF v0).1) ((qV v0).1)) (some ((qH ((qF v0).1) ((qV v0).1)).1,((qH ((qF v0).1) ((qV v0).1)).2:Bool),()))))))
def Γ66:Gam:=[(40,g40),(44,g44),(59,g59)]
theorem zx5:Gam.get Γ66 40=some g40:=rfl
theorem zdB:Gam.get Γ66 44=some g44:=rfl
theorem znp:Gam.get Γ66 59=some g59:=rfl
def qDB:Nat→Tree:=fun _=> .done
def q37:Nat→Nm:=fun _=>⟨[],[],false⟩
def q3B:Nat→Option Jn:=fun _=>none
def qMT:Nat→Option Nm:=fun _=>none
def qQO:Nat→Option Nm:=fun _=>none
theorem p66:qh qDB (Tryz.f66.body.getD .skip)=true:=by kernel_rfl
def T66 (N:Nat):Tab:={tr:=qDB,lp:=q37,ex:=qMT,rg:=qQO,jn:=q3B,fuel:=N}
theorem zg2 (N:Nat):(T66 N).pins=false:=rfl
theorem zcz (N:Nat):qk Tryz.prog (T66 N):=qo fun _=>rfl
theorem zh3 (N:Nat) (i:Nat):(T66 N).tr i=qDB i:=rfl
theorem zbn (N:Nat) (i:Nat):(T66 N).lp i=q37 i:=rfl
theorem zpL (N:Nat) (i:Nat):(T66 N).ex i=qMT i:=rfl
theorem ziX (N:Nat) (i:Nat):(T66 N).rg i=qQO i:=rfl
theorem zfu (N:Nat) (i:Nat):(T66 N).jn i=q3B i:=rfl
theorem zmg (N:Nat):(T66 N).fuel=N:=rfl
theorem ztK (N:Nat) (v0:Val Y50):qf tt Γ66 (T66 N) (Tryz.f66.body.getD .skip) (qm tt false [i50,i4] [.cell 2 50,.tmp 3]) (qp [i50] 35 (v0,()))=m66 N v0:=by
 rw [m66];unfold Tryz.f66
 simp (maxSteps:=10000000) -implicitDefEqProofs [zh3,qDB,zbn,q37,zpL,qMT,ziX,qQO,zfu,q3B,zmg,zg2,zx5,zdB,znp,g40,g44,g59]
 try rfl
theorem q70 (a:Val Y50):List.length (α:=Val Y33) (qV a).1.2≤12∧ ∀c∈((qV a).1.2:List (Val Y33)),qz c=true:=by
 unfold qV
 cases (qab a).2 with
 | false=>exact ⟨Nat.zero_le _,fun c hc=>by cases hc⟩
 | true=>
   cases (qF (qab a).1).2 with
   | false=>exact ⟨Nat.zero_le _,fun c hc=>by cases hc⟩
   | true=>exact zae _
theorem zua (a:Val Y50):List.length (α:=Val Y33) (qah a).1.2≤12∧ ∀c∈((qah a).1.2:List (Val Y33)),qz c=true:=by
 unfold qah
 cases (qF a).2&&(qV a).2 with
 | false=>exact ⟨Nat.zero_le _,fun c hc=>by cases hc⟩
 | true=>exact qzA _ _
theorem e60 (r:Val Y50): ∃N,m60 N r=some ((qV r).1,(qV r).2,()):=⟨0,by
 rw [m60]
 unfold qV
 cases (qab r).2 with
 | false=>rfl
 | true=>cases (qF (qab r).1).2<;>rfl⟩
theorem s60:Sound Tryz.prog 60 g60:=qr (tt:=tt) (Γ:=Γ60) hT (qg s41 (qg s54 qn)) hm (fn:=Tryz.f60) Tryz.func60 (c:=Tryz.f60.body.getD .skip) (by kernel_rfl) (by kernel_rfl) fun x hx=>by
 obtain ⟨N,h⟩:=e60 x.1
 exact ⟨T60 N,p60,qu _,zhs N,(zfm N x.1).trans h⟩
theorem e59 (r:Val Y50) (h:qpp r): ∃N,m59 N r=some ((qV r).1,(qV r).2,()):=⟨0,by
 rw [m59,qe (show qoR r from h),qe (show qia (qab r).1 from qBd (zae r))]
 unfold qV
 cases (qab r).2 with
 | false=>rfl
 | true=>
   cases (qF (qab r).1).2 with
   | false=>rfl
   | true=>
     simp only [Bool.not_true,cond_false,cond_true]
     exact qe (show qoR (qF (qab r).1).1 from qBd (q0p _))⟩
theorem s59:Sound Tryz.prog 59 g59:=qr (tt:=tt) (Γ:=Γ59) hT (qg s40 (qg s53 qn)) hm (fn:=Tryz.f59) Tryz.func59 (c:=Tryz.f59.body.getD .skip) (by kernel_rfl) (by kernel_rfl) fun x hx=>by
 obtain ⟨N,h⟩:=e59 x.1 hx
 exact ⟨T59 N,p59,qu _,zpG N,(zhx N x.1).trans h⟩
theorem e67 (r:Val Y50): ∃N,m67 N r=some ((qah r).1,(qah r).2,()):=⟨0,by
 rw [m67]
 unfold qah
 cases (qF r).2 with
 | false=>rfl
 | true=>cases (qV r).2<;>rfl⟩
theorem s67:Sound Tryz.prog 67 g67:=qr (tt:=tt) (Γ:=Γ67) hT (qg s41 (qg s45 (qg s60 qn))) hm (fn:=Tryz.f67) Tryz.func67 (c:=Tryz.f67.body.getD .skip) (by kernel_rfl) (by kernel_rfl) fun x hx=>by
 obtain ⟨N,h⟩:=e67 x.1
 exact ⟨T67 N,p67,qu _,zeO N,(zAj N x.1).trans h⟩
theorem e66 (r:Val Y50) (h:qEF r): ∃N,m66 N r=some ((qah r).1,(qah r).2,()):=⟨0,by
 rw [m66,qe (show qia r from h),qe (show qpp r from h)]
 unfold qah
 cases (qF r).2 with
 | false=>rfl
 | true=>
   cases (qV r).2 with
   | false=>rfl
   | true=>
     simp only [Bool.not_true,cond_false,Bool.and_self,cond_true]
     exact qe (show qeE (qF r).1 (qV r).1 from ⟨qBd (q0p r),qBd (q70 r)⟩)⟩
theorem s66:Sound Tryz.prog 66 g66:=qr (tt:=tt) (Γ:=Γ66) hT (qg s40 (qg s44 (qg s59 qn))) hm (fn:=Tryz.f66) Tryz.func66 (c:=Tryz.f66.body.getD .skip) (by kernel_rfl) (by kernel_rfl) fun x hx=>by
 obtain ⟨N,h⟩:=e66 x.1 hx
 exact ⟨T66 N,p66,qu _,zcz N,(ztK N x.1).trans h⟩
end Go.T
