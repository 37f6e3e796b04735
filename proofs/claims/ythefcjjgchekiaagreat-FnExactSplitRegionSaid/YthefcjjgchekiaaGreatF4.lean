/- The law of DifferenceOf. -/
import Derived.Test.YthefcjjgchekiaaGreatF3
import Derived.Test.YthefcjjgchekiaaGreatF2
set_option linter.unusedSimpArgs false
set_option linter.unusedVariables false
namespace Go.T
open Go Go.Proofs
set_option maxHeartbeats 4000000
set_option maxRecDepth 100000
noncomputable def m7 (N:Nat) (v0:Val Y42) (v1:Val Y42):Option (qc [i4]):=chk (qby v0 (1048576:Int)) (bif (decide (((qaT v0 (1048576:Int)):Int)<(0:Int)))then (some (true,()))else (chk (qby v1 ((qaT v0 (1048576:Int)):Int)) (bif (decide (((qaT v1 ((qaT v0 (1048576:Int)):Int)):Int)<(0:Int)))then (some (true,()))else (chk (q9 v0) (chk (q9 v1) (chk (qeE (((qd v0).1:Int),((qd v0).2:List (Val Y33))) (((qd v1).1:Int),((qd v1).2:List (Val Y33)))) (chk (q9 v0) (chk (q9 v1) (chk (q5 ((qH (((qd v0).1:Int),((qd v0).2:List (Val Y33))) (((qd v1).1:Int),((qd v1).2:List (Val Y33)))).1) ((qH (((qd v0).1:Int),((qd v0).2:List (Val Y33))) (((qd v1).1:Int),((qd v1).2:List (Val Y33)))).1)) (bif (!((qaf ((qH (((qd v0).1:Int),((qd v0).2:List (Val Y33))) (((qd v1).1:Int),((qd v1).2:List (Val Y33)))).1) ((qH (((qd v0).1:Int),((qd v0).2:List (Val Y33))) (((qd v1).1:Int),((qd v1).2:List (Val Y33)))).1)):Bool))then (some (false,()))else (bif (!(((qH (((qd v0).1:Int),((qd v0).2:List (Val Y33))) (((qd v1).1:Int),((qd v1).2:List (Val Y33)))).2:Bool)==((qH (((qd v0).1:Int),((qd v0).2:List (Val Y33))) (((qd v1).1:Int),((qd v1).2:List (Val Y33)))).2:Bool)))then (some (false,()))else (chk (q9 v0) (chk (q5 (((qd v0).1:Int),((qd v0).2:List (Val Y33))) (((qd v0).1:Int),((qd v0).2:List (Val Y33)))) (bif (!((qaf (((qd v0).1:Int),((qd v0).2:List (Val Y33))) (((qd v0).1:Int),((qd v0).2:List (Val Y33)))):Bool))then (some (false,()))else (chk (q9 v1) (chk (q5 (((qd v1).1:Int),((qd v1).2:List (Val Y33))) (((qd v1).1:Int),((qd v1).2:List (Val Y33)))) (bif (!((qaf (((qd v1).1:Int),((qd v1).2:List (Val Y33))) (((qd v1).1:Int),((qd v1).2:List (Val Y33)))):Bool))then (some (false,()))else (chk (qaP (((qd v0).1:Int),((qd v0).2:List (Val Y33))) (1:Int)) (chk (qaP (((qd v1).1:Int),((qd v1).2:List (Val Y33))) (qM (((qd v0).1:Int),((qd v0).2:List (Val Y33))) (1:Int))) (bif (decide ((qM (((qd v1).1:Int),((qd v1).2:List (Val Y33))) (qM (((qd v0).1:Int),((qd v0).2:List (Val Y33))) (1:Int)))<(0:Int)))then (some (false,()))else (chk (q5 ((qH (((qd v0).1:Int),((qd v0).2:List (Val Y33))) (((qd v1).1:Int),((qd v1).2:List (Val Y33)))).1) ((qH (((qd v0).1:Int),((qd v0).2:List (Val Y33))) (((qd v1).1:Int),((qd v1).2:List (Val Y33)))).1)) (bif (!((qaf ((qH (((qd v0).1:Int),((qd v0).2:List (Val Y33))) (((qd v1).1:Int),((qd v1).2:List (Val Y33)))).1) ((qH (((qd v0).1:Int),((qd v0).2:List (Val Y33))) (((qd v1).1:Int),((qd v1).2:List (Val Y33)))).1)):Bool))then (some (false,()))else (bif (!(((qH (((qd v0).1:Int),((qd v0).2:List (Val Y33))) (((qd v1).1:Int),((qd v1).2:List (Val Y33)))).2:Bool)==((qH (((qd v0).1:Int),((qd v0).2:List (Val Y33))) (((qd v1).1:Int),((qd v1).2:List (Val Y33)))).2:Bool)))then (some (false,()))else (chk (qaP ((qH (((qd v0).1:Int),((qd v0).2:List (Val Y33))) (((qd v1).1:Int),((qd v1).2:List (Val Y33)))).1) (1:Int)) (chk (qbg ((((qH (((qd v0).1:Int),((qd v0).2:List (Val Y33))) (((qd v1).1:Int),((qd v1).2:List (Val Y33)))).1).1:Int),((qG ((qH (((qd v0).1:Int),((qd v0).2:List (Val Y33))) (((qd v1).1:Int),((qd v1).2:List (Val Y33)))).1) (1:Int)).2:List (Val Y33))) (1:Int)) (bif (decide (((qap ((((qH (((qd v0).1:Int),((qd v0).2:List (Val Y33))) (((qd v1).1:Int),((qd v1).2:List (Val Y33)))).1).1:Int),((qG ((qH (((qd v0).1:Int),((qd v0).2:List (Val Y33))) (((qd v1).1:Int),((qd v1).2:List (Val Y33)))).1) (1:Int)).2:List (Val Y33))) (1:Int)):Int)<(0:Int)))then (some (false,()))else (bif (!(decide (((qap ((((qH (((qd v0).1:Int),((qd v0).2:List (Val Y33))) (((qd v1).1:Int),((qd v1).2:List (Val Y33)))).1).1:Int),((qG ((qH (((qd v0).1:Int),((qd v0).2:List (Val Y33))) (((qd v1).1:Int),((qd v1).2:List (Val Y33)))).1) (1:Int)).2:List (Val Y33))) (1:Int)):Int)=(qM ((qH (((qd v0).1:Int),((qd v0).2:List (Val Y33))) (((qd v1).1:Int),((qd v1).2:List (Val Y33)))).1) (1:Int)))))then (some (false,()))else (chk (q9 v0) (chk (q9 v1) (chk (q5 ((qH (((qd v0).1:Int),((qd v0).2:List (Val Y33))) (((qd v1).1:Int),((qd v1).2:List (Val Y33)))).1) ((qH (((qd v0).1:Int),((qd v0).2:List (Val Y33))) (((qd v1).1:Int),((qd v1).2:List (Val Y33)))).1)) (bif (!((qaf ((qH (((qd v0).1:Int),((qd v0).2:List (Val Y33))) (((qd v1).1:Int),((qd v1).2:List (Val Y33)))).1) ((qH (((qd v0).1:Int),((qd v0).2:List (Val Y33))) (((qd v1).1:Int),((qd v1).2:List (Val Y33)))).1)):Bool))then (some (false,()))else (bif (!(((qH (((qd v0).1:Int),((qd v0).2:List (Val Y33))) (((qd v1).1:Int),((qd v1).2:List (Val Y33)))).2:Bool)==((qH (((qd v0).1:Int),((qd v0).2:List (Val Y33))) (((qd v1).1:Int),((qd v1).2:List (Val Y33)))).2:Bool)))then (some (false,()))else (chk (qbg ((((qH (((qd v0).1:Int),((qd v0).2:List (Val Y33))) (((qd v1).1:Int),((qd v1).2:List (Val Y33)))).1).1:Int),((qG ((qH (((qd v0).1:Int),((qd v0).2:List (Val Y33))) (((qd v1).1:Int),((qd v1).2:List (Val Y33)))).1) (1:Int)).2:List (Val Y33))) (1:Int)) (bif (decide (((qap ((((qH (((qd v0).1:Int),((qd v0).2:List (Val Y33))) (((qd v1).1:Int),((qd v1).2:List (Val Y33)))).1).1:Int),((qG ((qH (((qd v0).1:Int),((qd v0).2:List (Val Y33))) (((qd v1).1:Int),((qd v1).2:List (Val Y33)))).1) (1:Int)).2:List (Val Y33))) (1:Int)):Int)<(0:Int)))then (some (false,()))else (bif (!(decide (((qap ((((qH (((qd v0).1:Int),((qd v0).2:List (Val Y33))) (((qd v1).1:Int),((qd v1).2:List (Val Y33)))).1).1:Int),((qG ((qH (((qd v0).1:Int),((qd v0).2:List (Val Y33))) (((qd v1).1:Int),((qd v1).2:List (Val Y33)))).1) (1:Int)).2:List (Val Y33))) (1:Int)):Int)=(qM ((qH (((qd v0).1:Int),((qd v0).2:List (Val Y33))) (((qd v1).1:Int),((qd v1).2:List (Val Y33)))).1) (1:Int)))))then (some (false,()))else (some (true,())))))))))))))))))))))))))))))))))))))
def zdR (_:Val Y42) (_:Val Y42):Bool:=true
def zvi (x0:Val Y42) (x1:Val Y42):Prop:=Sms [i42,i42] (x0,x1,())
theorem e7 (x y:Val Y42) (h:zvi x y): ∃N,m7 N x y=some (zdR x y,()):=⟨0,by
 rw [m7,qe (show qby x 1048576 from ⟨h.1,by omega,by omega⟩)]
 by_cases c:qaT x 1048576<0
 ·rw [qj c];rfl
 rw [qi c]
 have hsz:0≤szV Y42 x 1048576:=by have: ¬szV Y42 x 1048576<0:=c;omega
 have hle:szV Y42 x 1048576≤1048576:=(qb4 Y42 x 1048576 (by omega)).1
 have hb:Bd Y42 x:=qdn Y42 x 1048576 (by omega) (by omega) hsz
 have hcx:=qhA Y50 x 1048576 rfl (by omega) hsz
 rw [qe (show qby y (qaT x 1048576) from ⟨h.2.1,hsz,hle⟩)]
 generalize hr:qaT x 1048576=r at*
 have hr':szV Y42 x 1048576=r:=hr
 by_cases c2:qaT y r<0
 ·rw [qj c2];rfl
 rw [qi c2]
 have hr0:0≤r:=by omega
 have hr1:r≤1048576:=by omega
 have hsz2:0≤szV Y42 y r:=by have: ¬szV Y42 y r<0:=c2;omega
 have hy:Bd Y42 y:=qdn Y42 y r hr0 hr1 hsz2
 have hcy:=qhA Y50 y r rfl hr0 hsz2
 have hcx':(qR Y50 x:Int)≤67108864:=by have:szV Y50 x 1048576=r:=hr;omega
 have hcy':(qR Y50 y:Int)≤67108864:=by have:0≤szV Y50 y r:=hsz2;omega
 have hk1:qM x 1=1+qR Y50 x:=qcD Y50 x 1 (by omega) (by omega)
 have hk2:qM y (qM x 1)=qM x 1+qR Y50 y:=qcD Y50 y _ (by omega) (by omega)
 have eX:((((qd x).1:Int),((qd x).2:List (Val Y33))):Val Y50)=qd x:=rfl
 have eY:((((qd y).1:Int),((qd y).2:List (Val Y33))):Val Y50)=qd y:=rfl
 rw [eX,eY]
 have hpc:=qzA (qd x) (qd y)
 have hpre:qeE (qd x) (qd y):=⟨qfo hb,qfo hy⟩
 generalize qH (qd x) (qd y)=p at hpc ⊢
 obtain ⟨p,b⟩:=p
 obtain ⟨hpb,hpn⟩:=qm1 (r:=p) hpc
 have hK1:qM p 1=1+qR Y50 p:=qcD Y50 p 1 (by omega) (by omega)
 have hv1:qap (((p.1:Int),((qG p 1).2:List (Val Y33))):Val Y50) 1=qM p 1:=congrArg Prod.snd (qcQ Y50 p 1)
 have hh1:qbg (((p.1:Int),((qG p 1).2:List (Val Y33))):Val Y50) 1:=⟨congrArg Prod.fst (qcQ Y50 p 1),qh7 _ _ _ hpb,by omega,by
  have:qR Y50 (qG p 1)=qR Y50 p:=qiF _ _ _
  have e:qR Y50 (((p.1:Int),((qG p 1).2:List (Val Y33))):Val Y50)=qR Y50 (qG p 1):=rfl
  omega⟩
 have rf: ∀z:Val Y50,qaf z z=true:=fun z=>qdW _ _
 have ep:q5 p p:=hpb
 have tx:q9 x:=hb
 have ty:q9 y:=hy
 have exx:q5 (qd x) (qd x):=hb
 have eyy:q5 (qd y) (qd y):=hy
 have m1:qaP (qd x) 1:=⟨hb,by omega⟩
 have e1:qM (qd x) 1=qM x 1:=rfl
 have e2:qM (qd y) (qM (qd x) 1)=qM y (qM x 1):=rfl
 have m2:qaP (qd y) (qM (qd x) 1):=⟨hy,by omega⟩
 have m3:qaP p 1:=⟨hpb,by omega⟩
 have n1: ¬qM (qd y) (qM (qd x) 1)<0:=by omega
 have n2: ¬qM p 1<0:=by omega
 dsimp only
 simp only [hv1,qe tx,qe ty,qe hpre,qe ep,qe exx,qe eyy,qe m1,qe m2,qe m3,qe hh1,rf,decide_eq_false n1,decide_eq_false n2,Bool.not_true,cond_false,beq_self_eq_true,decide_true]
 rfl⟩
end Go.T
