/- The law of SameRegion. -/
import Derived.Test.YthefcjjgchekiaaGreatF1
import Derived.Test.YthefcjjgchekiaaGreatE13
set_option linter.unusedSimpArgs false
set_option linter.unusedVariables false
namespace Go.T
open Go Go.Proofs
set_option maxHeartbeats 4000000
set_option maxRecDepth 100000
noncomputable def m5 (N:Nat) (v0:Val Y42) (v1:Val Y42):Option (qc [i4]):=chk (qby v0 (1048576:Int)) (bif (decide (((qaT v0 (1048576:Int)):Int)<(0:Int)))then (some (true,()))else (chk (qby v1 ((qaT v0 (1048576:Int)):Int)) (bif (decide (((qaT v1 ((qaT v0 (1048576:Int)):Int)):Int)<(0:Int)))then (some (true,()))else (chk (q9 v0) (chk (q9 v1) (chk (q56 (((qd v0).1:Int),((qd v0).2:List (Val Y33))) (((qd v1).1:Int),((qd v1).2:List (Val Y33)))) (chk (q9 v0) (chk (q9 v1) (bif (!(((qCC (((qd v0).1:Int),((qd v0).2:List (Val Y33))) (((qd v1).1:Int),((qd v1).2:List (Val Y33)))).1:Bool)==((qCC (((qd v0).1:Int),((qd v0).2:List (Val Y33))) (((qd v1).1:Int),((qd v1).2:List (Val Y33)))).1:Bool)))then (some (false,()))else (bif (!(((qCC (((qd v0).1:Int),((qd v0).2:List (Val Y33))) (((qd v1).1:Int),((qd v1).2:List (Val Y33)))).2:Bool)==((qCC (((qd v0).1:Int),((qd v0).2:List (Val Y33))) (((qd v1).1:Int),((qd v1).2:List (Val Y33)))).2:Bool)))then (some (false,()))else (chk (q9 v0) (chk (q5 (((qd v0).1:Int),((qd v0).2:List (Val Y33))) (((qd v0).1:Int),((qd v0).2:List (Val Y33)))) (bif (!((qaf (((qd v0).1:Int),((qd v0).2:List (Val Y33))) (((qd v0).1:Int),((qd v0).2:List (Val Y33)))):Bool))then (some (false,()))else (chk (q9 v1) (chk (q5 (((qd v1).1:Int),((qd v1).2:List (Val Y33))) (((qd v1).1:Int),((qd v1).2:List (Val Y33)))) (bif (!((qaf (((qd v1).1:Int),((qd v1).2:List (Val Y33))) (((qd v1).1:Int),((qd v1).2:List (Val Y33)))):Bool))then (some (false,()))else (some (true,()))))))))))))))))))
def zo7 (_:Val Y42) (_:Val Y42):Bool:=true
def zz6 (x0:Val Y42) (x1:Val Y42):Prop:=Sms [i42,i42] (x0,x1,())
theorem e5 (x y:Val Y42) (h:zz6 x y): ∃N,m5 N x y=some (zo7 x y,()):=⟨0,by
 rw [m5,qe (show qby x 1048576 from ⟨h.1,by omega,by omega⟩)]
 by_cases c:qaT x 1048576<0
 ·rw [qj c];rfl
 rw [qi c]
 have hsz:0≤szV Y42 x 1048576:=by have: ¬szV Y42 x 1048576<0:=c;omega
 have hle:szV Y42 x 1048576≤1048576:=(qb4 Y42 x 1048576 (by omega)).1
 have hb:Bd Y42 x:=qdn Y42 x 1048576 (by omega) (by omega) hsz
 rw [qe (show qby y (qaT x 1048576) from ⟨h.2.1,hsz,hle⟩)]
 by_cases c2:qaT y (qaT x 1048576)<0
 ·rw [qj c2];rfl
 rw [qi c2]
 have hsz2:0≤szV Y42 y (szV Y42 x 1048576):=by have: ¬szV Y42 y (szV Y42 x 1048576)<0:=c2;omega
 have hc:Bd Y42 y:=qdn Y42 y _ (by omega) (by omega) hsz2
 have tx:q9 x:=hb
 have ty:q9 y:=hc
 have hp:q56 (qd x) (qd y):=⟨qfo hb,qfo hc⟩
 have ex:q5 (qd x) (qd x):=hb
 have ey:q5 (qd y) (qd y):=hc
 have rx:qaf (qd x) (qd x)=true:=qdW _ _
 have ry:qaf (qd y) (qd y)=true:=qdW _ _
 have eX:((((qd x).1:Int),((qd x).2:List (Val Y33))):Val Y50)=qd x:=rfl
 have eY:((((qd y).1:Int),((qd y).2:List (Val Y33))):Val Y50)=qd y:=rfl
 try rw [eX,eY]
 simp only [qe tx,qe ty,qe hp,qe ex,qe ey,rx,ry,Bool.not_true,cond_false,beq_self_eq_true]
 rfl⟩
end Go.T
