/- Emptiness; what cells imply: what the functions compute. -/
import Derived.Test.YthefcjjgchekiaaGreatE1
set_option linter.unusedSimpArgs false
set_option linter.unusedVariables false
namespace Go.T
open Go Go.Proofs
set_option maxHeartbeats 4000000
set_option maxRecDepth 100000
abbrev dC:Val Y33:=qb Y33
theorem zqf {α:Type} (k:Nat) (d x:α) (t:List α):(List.replicate k d++x::t).getD k d=x:=by
 simp [List.getD]
theorem qYN {α:Type} (k:Nat) (d x:α) (t:List α):(List.replicate (k+1) d++t).set k x=List.replicate k d++x::t:=by
 rw [List.replicate_succ',List.append_assoc,List.set_append_right _ _ (by simp)]
 simp
theorem zjd {d:Int} {x:Val Y33} {k:Nat} (hx:okN d x) (hk:(k:Int)<d):qcp x k=qU x k:=by
 obtain ⟨h1,h2,h3⟩:=hx
 have hr:0≤(k:Int)∧(k:Int)<(x.1:Int):=⟨by omega,by rw [h3];omega⟩
 unfold qcp;rw [h1,decide_eq_true hr];rfl
theorem zqI {d:Int} {x:Val Y33} {k:Nat} (hx:okN d x) (hm:(qU x k).2=true):okN d (qU x k).1:=by
 have:=qmA hx.1 hm
 rw [hx.2.2]at this
 exact this
abbrev ziP:Option (qc [i48,i4]):=some (([]:List (Val Y33)),false,())
theorem q2h (N:Nat) (d:Int) (hd:0≤d∧d≤4) (K:List (Val Y33)→Option (qc [i48,i4])): ∀(k:Nat) (x:Val Y33) (t:List (Val Y33)),okN d x→(k:Int)≤d→ ∀n,k<n→
 qjV N K n ((k:Int) - 1) (List.replicate k dC++x::t)=match qbS k x with
  | some l=>K (l++t)
  | none=>ziP
 | 0,x,t,_,_,n+1,_=>by
   rw [qjV,qj (by omega)]
   rfl
 | k+1,x,t,hx,hk,n+1,hn=>by
   have e:((k+1:Nat):Int) - 1=(k:Int):=by omega
   have e1:IntKind.i64.wrap ((k:Int)+1)=((k+1:Nat):Int):=by rw [qaq (by omega) (by omega)];omega
   have e2:IntKind.i64.wrap ((k:Int) - 1)=(k:Int) - 1:=qaq (by omega) (by omega)
   have hl:(List.replicate (k+1) dC++x::t).length=k+1+(t.length+1):=by simp;omega
   have g1:(List.replicate (k+1) dC++x::t).getD (((k+1:Nat):Int)).toNat (qb Y33)=x:=zqf (k+1) dC x t
   rw [e,qjV,qk (by omega),e1,e2,qd (by omega),qd (by omega),g1,zjd hx (by omega),qbS]
   cases hm:(qU x k).2 with
   | false=>rfl
   | true=>
     have hN:=zqI hx hm
     simp only [Bool.not_true,cond_false,cond_true]
     rw [qd (by omega),qd (by omega)]
     have ex:(((((qU x k).1).1:Int),(((qU x k).1).2:List (Val qa))):Val Y33)=(qU x k).1:=rfl
     have es:(List.replicate (k+1) dC++x::t).set (k:Int).toNat (qU x k).1=List.replicate k dC++(qU x k).1::x::t:=qYN k dC _ _
     rw [ex,es,q2h N d hd K k (qU x k).1 (x::t) hN (by omega) n (by omega)]
     cases qbS k (qU x k).1 with
     | none=>rfl
     | some l=>simp
theorem q66 (c:Val Y33): ∃N,qEt N c=some ((qeN c).1,(qeN c).2,()):=⟨6,by
 rw [qEt]
 unfold qeN
 cases hc:qH c with
 | false=>rfl
 | true=>
 obtain ⟨hd,hl,hok⟩:=qaJ hc
 obtain ⟨hL,hN⟩:=qil hc
 obtain ⟨d,xs⟩:=c
 change Int at d
 change List (Val qa)at xs
 change 0≤d∧d≤4 at hd
 change okN d _ at hN
 have e0:IntKind.i64.wrap (d+1)=d+1:=qaq (by omega) (by omega)
 have e1:IntKind.i64.wrap (d - 1)=d - 1:=qaq (by omega) (by omega)
 have ed:((d.toNat:Nat):Int)=d:=Int.toNat_of_nonneg hd.1
 have e2:(d+1).toNat=d.toNat+1:=by omega
 simp only [Bool.not_true,cond_false,cond_true]
 rw [e0,e1,qd (by omega),qd (show qbR d xs from hL),e2,qd (show 0≤d∧d<(((List.replicate (d.toNat+1) dC).length:Nat):Int) from by rw [List.length_replicate];omega),qd (show d.toNat<(List.replicate (d.toNat+1) dC).length from by rw [List.length_replicate];omega)]
 have ex:((((qO d xs).1:Int),((qO d xs).2:List (Val qa))):Val Y33)=qO d xs:=rfl
 have es:(List.replicate (d.toNat+1) (qb Y33)).set d.toNat (qO d xs)=List.replicate d.toNat dC++[qO d xs]:=by
  have:=qYN d.toNat dC (qO d xs) []
  rw [List.append_nil]at this
  exact this
 have t:=fun K=>q2h 6 d hd K d.toNat (qO d xs) [] hN (by omega) 6 (by omega)
 simp only [ed]at t
 try rw [ex]
 rw [es]
 refine (t _).trans ?_
 cases qbS d.toNat (qO d xs)with
 | none=>rfl
 | some l=>simp⟩
theorem zkI:Sound Tryz.prog 225 qfW:=qx (tt:=tt) (Γ:=qiM) hT (qg qv0 (qg qTI (qg q1M qu))) hm (fn:=Tryz.f225) Tryz.func225 (c:=Tryz.f225.body.getD .skip) (by kernel_rfl) (by kernel_rfl) fun x hx=>by
 obtain ⟨N,h⟩:=q66 x.1
 exact ⟨qdh N,znv,qy _,q6w N,(zgA N x.1).trans h⟩
end Go.T
/- Minimal cells: run. -/
set_option linter.unusedSimpArgs false
set_option linter.unusedVariables false
namespace Go.T
open Go Go.Proofs
set_option maxHeartbeats 4000000
set_option maxRecDepth 100000
theorem zjE {α:Type} {b:Bool} {x x' y y':α} (h:x=x') (h':y=y'):cond b x y=cond b x' y':=by rw [h,h']
abbrev dA:Val qa:=qb qa
abbrev quO:Val Y33×Bool:=(((0:Int),[]),false)
def qjX (d:Int):Nat→Nat→List (Val qa)→Option (List (Val qa))
 | 0,_,l=>some l
 | n+1,i,l=>if i<l.length then (bif (qEZ (d,l.take i++l.drop (i+1)) (l.getD i dA)).2 then (bif (qEZ (d,l.take i++l.drop (i+1)) (l.getD i dA)).1 then qjX d n i (l.take i++l.drop (i+1))else qjX d n (i+1) l)else none)else some l
def qe7 (x:Val Y33):Val Y33×Bool:=bif (qp8 x).2 then (bif (qp8 x).1 then (qbJ x.1,true)else (match qjX x.1 (List.length (α:=Val qa) x.2+1) 0 x.2 with
 | some l=>((x.1,l),true)
 | none=>quO))else quO
def qaD (c:Val Y33):Val Y33×Bool:=bif qH c then qe7 (qO c.1 c.2)else quO
def cpC (c:Val Y33):Val Y33:=c
def qi0 (c:Val Y33):Prop:=Bd Y33 c
end Go.T
/- Minimal cells: what the functions compute. -/
set_option linter.unusedSimpArgs false
set_option linter.unusedVariables false
namespace Go.T
open Go Go.Proofs
set_option maxHeartbeats 4000000
set_option maxRecDepth 100000
theorem zgJ {α:Type} (l:List α) (i:Nat):(l.take i++l.drop (i+1)).Sublist l:=by
 rw [←List.eraseIdx_eq_take_drop_succ]
 exact List.eraseIdx_sublist ..
theorem q9m {d:Int} {l:List (Val qa)} (h: ∀a∈l,okD d a) (hl:l.length≤1048576):Bd Y33 ((d,l):Val Y33):=
 ⟨trivial,hl,fun a ha=>⟨⟨by have:=(qbv (h a ha).1).1;show List.length (α:=Int) a.1≤1048576;omega,fun _ _=>trivial⟩,trivial,trivial⟩⟩
end Go.T
