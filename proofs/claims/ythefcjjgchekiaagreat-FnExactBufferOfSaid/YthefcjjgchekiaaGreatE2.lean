/- Emptiness; what cells imply: what the functions compute. -/
import Derived.Test.YthefcjjgchekiaaGreatE1
set_option linter.unusedSimpArgs false
set_option linter.unusedVariables false
namespace Go.T
open Go Go.Proofs
set_option maxHeartbeats 4000000
set_option maxRecDepth 100000
abbrev dC:Val Y33:=qc Y33
theorem q4g {α:Type} (k:Nat) (d x:α) (t:List α):(List.replicate k d++x::t).getD k d=x:=by
 simp [List.getD]
theorem qTq {α:Type} (k:Nat) (d x:α) (t:List α):(List.replicate (k+1) d++t).set k x=List.replicate k d++x::t:=by
 rw [List.replicate_succ',List.append_assoc,List.set_append_right _ _ (by simp)]
 simp
theorem zcK {d:Int} {x:Val Y33} {k:Nat} (hx:okN d x) (hk:(k:Int)<d):qbZ x k=qR x k:=by
 obtain ⟨h1,h2,h3⟩:=hx
 have hr:0≤(k:Int)∧(k:Int)<(x.1:Int):=⟨by omega,by rw [h3];omega⟩
 unfold qbZ;rw [h1,decide_eq_true hr];rfl
theorem qQI {d:Int} {x:Val Y33} {k:Nat} (hx:okN d x) (hm:(qR x k).2=true):okN d (qR x k).1:=by
 have:=qwo hx.1 hm
 rw [hx.2.2]at this
 exact this
abbrev qX9:Option (qb [i48,i4]):=some (([]:List (Val Y33)),false,())
theorem qTG (N:Nat) (d:Int) (hd:0≤d∧d≤4) (K:List (Val Y33)→Option (qb [i48,i4])): ∀(k:Nat) (x:Val Y33) (t:List (Val Y33)),okN d x→(k:Int)≤d→ ∀n,k<n→
 qkj N K n ((k:Int) - 1) (List.replicate k dC++x::t)=match qef k x with
  | some l=>K (l++t)
  | none=>qX9
 | 0,x,t,_,_,n+1,_=>by
   rw [qkj,qi (by omega)]
   rfl
 | k+1,x,t,hx,hk,n+1,hn=>by
   have e:((k+1:Nat):Int) - 1=(k:Int):=by omega
   have e1:IntKind.i64.wrap ((k:Int)+1)=((k+1:Nat):Int):=by rw [qaf (by omega) (by omega)];omega
   have e2:IntKind.i64.wrap ((k:Int) - 1)=(k:Int) - 1:=qaf (by omega) (by omega)
   have hl:(List.replicate (k+1) dC++x::t).length=k+1+(t.length+1):=by simp;omega
   have g1:(List.replicate (k+1) dC++x::t).getD (((k+1:Nat):Int)).toNat (qc Y33)=x:=q4g (k+1) dC x t
   rw [e,qkj,ql (by omega),e1,e2,qe (by omega),qe (by omega),g1,zcK hx (by omega),qef]
   cases hm:(qR x k).2 with
   | false=>rfl
   | true=>
     have hN:=qQI hx hm
     simp only [Bool.not_true,cond_false,cond_true]
     rw [qe (by omega),qe (by omega)]
     have ex:(((((qR x k).1).1:Int),(((qR x k).1).2:List (Val qa))):Val Y33)=(qR x k).1:=rfl
     have es:(List.replicate (k+1) dC++x::t).set (k:Int).toNat (qR x k).1=List.replicate k dC++(qR x k).1::x::t:=qTq k dC _ _
     rw [ex,es,qTG N d hd K k (qR x k).1 (x::t) hN (by omega) n (by omega)]
     cases qef k (qR x k).1 with
     | none=>rfl
     | some l=>simp
theorem qZX (c:Val Y33): ∃N,qz9 N c=some ((qfV c).1,(qfV c).2,()):=⟨6,by
 rw [qz9]
 unfold qfV
 cases hc:qD c with
 | false=>rfl
 | true=>
 obtain ⟨hd,hl,hok⟩:=qaD hc
 obtain ⟨hL,hN⟩:=qm3 hc
 obtain ⟨d,xs⟩:=c
 change Int at d
 change List (Val qa)at xs
 change 0≤d∧d≤4 at hd
 change okN d _ at hN
 have e0:IntKind.i64.wrap (d+1)=d+1:=qaf (by omega) (by omega)
 have e1:IntKind.i64.wrap (d - 1)=d - 1:=qaf (by omega) (by omega)
 have ed:((d.toNat:Nat):Int)=d:=Int.toNat_of_nonneg hd.1
 have e2:(d+1).toNat=d.toNat+1:=by omega
 simp only [Bool.not_true,cond_false,cond_true]
 rw [e0,e1,qe (by omega),qe (show qaK d xs from hL),e2,qe (show 0≤d∧d<(((List.replicate (d.toNat+1) dC).length:Nat):Int) from by rw [List.length_replicate];omega),qe (show d.toNat<(List.replicate (d.toNat+1) dC).length from by rw [List.length_replicate];omega)]
 have ex:((((qm d xs).1:Int),((qm d xs).2:List (Val qa))):Val Y33)=qm d xs:=rfl
 have es:(List.replicate (d.toNat+1) (qc Y33)).set d.toNat (qm d xs)=List.replicate d.toNat dC++[qm d xs]:=by
  have:=qTq d.toNat dC (qm d xs) []
  rw [List.append_nil]at this
  exact this
 have t:=fun K=>qTG 6 d hd K d.toNat (qm d xs) [] hN (by omega) 6 (by omega)
 simp only [ed]at t
 try rw [ex]
 rw [es]
 refine (t _).trans ?_
 cases qef d.toNat (qm d xs)with
 | none=>rfl
 | some l=>simp⟩
theorem q2d:Sound Tryz.prog 225 qxl:=qu (tt:=tt) (Γ:=qh1) hT (qf qrl (qf qIW (qf qUO qq))) hm (fn:=Tryz.f225) Tryz.func225 (c:=Tryz.f225.body.getD .skip) (by kernel_rfl) (by kernel_rfl) fun x hx=>by
 obtain ⟨N,h⟩:=qZX x.1
 exact ⟨qdx N,qZJ,qv _,q5T N,(q1M N x.1).trans h⟩
theorem qT9: ∀(k:Nat) (x:Val Y33),(qef k x).map (fun l=>l.getD 0 dC)=qh9 (-1) k x∧ ∀l,qef k x=some l→0<l.length
 | 0,x=>⟨rfl,fun l h=>by simp only [qef,Option.some.injEq]at h;subst h;simp⟩
 | k+1,x=>by
   have hk: ¬(k:Int)= -1:=by omega
   simp only [qef,qh9,if_neg hk]
   cases hm:(qR x k).2 with
   | false=>exact ⟨rfl,fun l h=>by simp at h⟩
   | true=>
     obtain ⟨h1,h2⟩:=qT9 k (qR x k).1
     simp only [cond_true]
     rw [←h1]
     cases hp:qef k (qR x k).1 with
     | none=>exact ⟨rfl,fun l h=>by simp at h⟩
     | some l=>
       have hl:=h2 l hp
       refine ⟨?_,fun l' h=> ?_⟩
       ·simp only [Option.map_some]
        congr 1
        show (l++[x]).getD 0 dC=l.getD 0 dC
        rw [List.getD_eq_getElem?_getD,List.getD_eq_getElem?_getD,List.getElem?_append_left hl]
       ·simp only [Option.some.injEq]at h
        subst h;simp
theorem qYx (c:Val Y33): ∃N,qAP N c=some ((qat c).1,(qat c).2,()):=⟨0,by
 rw [qAP]
 unfold qfV qat
 cases hc:qD c with
 | false=>rfl
 | true=>
   obtain ⟨h1,h2⟩:=qT9 (c.1:Int).toNat (qm c.1 c.2)
   simp only [cond_true]
   rw [←h1]
   cases hp:qef (c.1:Int).toNat (qm c.1 c.2)with
   | none=>rfl
   | some l=>
     have hl:=h2 l hp
     simp only [Bool.not_true,cond_false,Option.map_some]
     rw [qe (by omega),qe (by simpa using hl)]
     rfl⟩
theorem qRQ:Sound Tryz.prog 212 qeW:=qu (tt:=tt) (Γ:=qEd) hT (qf q2d qq) hm (fn:=Tryz.f212) Tryz.func212 (c:=Tryz.f212.body.getD .skip) (by kernel_rfl) (by kernel_rfl) fun x hx=>by
 obtain ⟨N,h⟩:=qYx x.1
 exact ⟨qf0 N,zaH,qv _,q39 N,(q8k N x.1).trans h⟩
abbrev q78:Option (qb [i4,i4]):=some (false,false,())
theorem qQH (N:Nat) (d:Int) (hd:0≤d∧d≤4) (K:Int→List (Val qa)→Option (qb [i4,i4])): ∀(k:Nat) (x:Val Y33),okN d x→(k:Int)≤d→ ∀n,k<n→
 qjH N K n ((k:Int) - 1) x.1 x.2=match qh9 (-1) k x with
  | some y=>K y.1 y.2
  | none=>q78
 | 0,x,_,_,n+1,_=>by
   rw [qjH,qi (by omega)]
   rfl
 | k+1,x,hx,hk,n+1,hn=>by
   have e:((k+1:Nat):Int) - 1=(k:Int):=by omega
   have e2:IntKind.i64.wrap ((k:Int) - 1)=(k:Int) - 1:=qaf (by omega) (by omega)
   have hkn: ¬(k:Int)= -1:=by omega
   have ex:(((x.1:Int),(x.2:List (Val qa))):Val Y33)=x:=rfl
   have hr:0≤(k:Int)∧(k:Int)<(x.1:Int):=⟨by omega,by rw [hx.2.2];omega⟩
   rw [e,qjH,ql (by omega),e2,qh9,if_neg hkn,ex,qe (show qnv x k from ⟨hx.1,hr⟩)]
   cases hm:(qR x k).2 with
   | false=>rfl
   | true=>exact qQH N d hd K k (qR x k).1 (qQI hx hm) (by omega) n (by omega)
theorem q9O (c:Val Y33) (h:qrw c): ∃N,qv1 N c=some ((qat c).1,(qat c).2,()):=⟨6,by
 rw [qv1,qe (show qcg c from h)]
 unfold qat
 cases hc:qD c with
 | false=>rfl
 | true=>
 obtain ⟨hd,hl,hok⟩:=qaD hc
 obtain ⟨hL,hN⟩:=qm3 hc
 obtain ⟨d,xs⟩:=c
 change Int at d
 change List (Val qa)at xs
 change 0≤d∧d≤4 at hd
 change okN d _ at hN
 have e1:IntKind.i64.wrap (d - 1)=d - 1:=qaf (by omega) (by omega)
 have ed:((d.toNat:Nat):Int)=d:=Int.toNat_of_nonneg hd.1
 simp only [Bool.not_true,cond_false,cond_true]
 rw [e1,qe (show qaK d xs from hL)]
 have t:=fun K=>qQH 6 d hd K d.toNat (qm d xs) hN (by omega) 6 (by omega)
 simp only [ed]at t
 refine (t _).trans ?_
 cases qh9 (-1) d.toNat (qm d xs)<;>rfl⟩
theorem qS7:Sound Tryz.prog 208 qfy:=qu (tt:=tt) (Γ:=qhP) hT (qf qON (qf qtd (qf qQd qq))) hm (fn:=Tryz.f208) Tryz.func208 (c:=Tryz.f208.body.getD .skip) (by kernel_rfl) (by kernel_rfl) fun x hx=>by
 obtain ⟨N,h⟩:=q9O x.1 hx
 exact ⟨qdn N,qZa,qv _,zaP N,(q3G N x.1).trans h⟩
theorem q2q {a b:Val Y33} (h:(qaw a b).2=true):okN a.1 (qaw a b).1:=by
 unfold qaw at*
 cases ha:qD a with
 | false=>rw [ha]at h;simp at h
 | true=>
   cases hb:qD b with
   | false=>rw [ha,hb]at h;simp at h
   | true=>
     by_cases hd:(a.1:Int)=(b.1:Int)
     ·rw [ha,hb,decide_eq_true hd]at h
      rw [decide_eq_true hd]
      exact qSW (qBF ha hb hd).1 h
     ·rw [ha,hb,decide_eq_false hd]at h;simp at h
theorem q4t {a:Val qa} (h:(qz a).2=true):List.length (α:=Int) (qz a).1.1=List.length (α:=Int) a.1:=by
 unfold qz at*
 cases ha:qA a with
 | false=>rw [ha]at h;simp at h
 | true=>simp
theorem q5u (c:Val Y33) (a:Val qa): ∃N,qwJ N c a=some ((qas c a).1,(qas c a).2,()):=⟨0,by
 rw [qwJ]
 unfold qas
 cases hn:(qz a).2 with
 | false=>rfl
 | true=>
   have e1:=q4t hn
   have ex:((((qz a).1.1:List (Val (.int .i64))),(((qz a).1.2).1:Int),(((qz a).1.2).2:Bool)):Val qa)=(qz a).1:=rfl
   have e2:((((List.length (α:=Int) (qz a).1.1:Nat):Int),([(qz a).1]:List (Val qa))):Val Y33)=qh6 (qz a).1 (List.length (α:=Int) a.1:Int):=by rw [e1];rfl
   rw [ex]
   simp only [Bool.not_true,cond_false,Bool.true_and]
   rw [show (((((qz a).1.1:List (Val (.int .i64))).length:Int),([(qz a).1]:List (Val qa))):Val Y33)=qh6 (qz a).1 (List.length (α:=Int) a.1:Int) from e2]
   cases (qaw c (qh6 (qz a).1 (List.length (α:=Int) a.1:Int))).2<;>rfl⟩
theorem q4P:Sound Tryz.prog 220 qil:=qu (tt:=tt) (Γ:=qoT) hT (qf zai (qf qRQ (qf q7i qq))) hm (fn:=Tryz.f220) Tryz.func220 (c:=Tryz.f220.body.getD .skip) (by kernel_rfl) (by kernel_rfl) fun x hx=>by
 obtain ⟨N,h⟩:=q5u x.1 x.2.1
 exact ⟨qgk N,q1d,qv _,zbY N,(q0Y N x.1 x.2.1).trans h⟩
theorem q6d (c:Val Y33) (a:Val qa) (h:qqI c a): ∃N,qwa N c a=some ((qas c a).1,(qas c a).2,()):=⟨0,by
 have ex:((((qz a).1.1:List (Val (.int .i64))),(((qz a).1.2).1:Int),(((qz a).1.2).2:Bool)):Val qa)=(qz a).1:=rfl
 have e2:((((a.1:List (Val (.int .i64))).length:Int),([(qz a).1]:List (Val qa))):Val Y33)=qh6 (qz a).1 (List.length (α:=Int) a.1:Int):=rfl
 rw [qwa,ex,e2,qe (show qz8 a from h.2),qe (show qwh c (qh6 (qz a).1 _) from ⟨h.1,by show 1≤1048576;decide⟩)]
 unfold qas
 cases hn:(qz a).2 with
 | false=>rfl
 | true=>
   cases hm:(qaw c (qh6 (qz a).1 (List.length (α:=Int) a.1:Int))).2 with
   | false=>rfl
   | true=>
     simp only [Bool.not_true,cond_false,Bool.and_self,cond_true]
     refine qe ?_
     have:=(qaD (q2q hm).1).2.1
     show List.length (α:=Val qa) _≤1048576
     omega⟩
theorem q7u:Sound Tryz.prog 283 qiz:=qu (tt:=tt) (Γ:=qo4) hT (qf qXs (qf qS7 (qf zci qq))) hm (fn:=Tryz.f283) Tryz.func283 (c:=Tryz.f283.body.getD .skip) (by kernel_rfl) (by kernel_rfl) fun x hx=>by
 obtain ⟨N,h⟩:=q6d x.1 x.2.1 hx
 exact ⟨qgd N,zce,qv _,qVA N,(q7s N x.1 x.2.1).trans h⟩
end Go.T
