/- Emptiness; what cells imply: what the functions compute. -/
import Derived.Test.YthefcjjgchekiaaGreatE1
set_option linter.unusedSimpArgs false
set_option linter.unusedVariables false
namespace Go.T
open Go Go.Proofs
set_option maxHeartbeats 4000000
set_option maxRecDepth 100000
abbrev dC:Val Y33:=qb Y33
theorem zdg {α:Type} (k:Nat) (d x:α) (t:List α):(List.replicate k d++x::t).getD k d=x:=by
 simp [List.getD]
theorem q9Y {α:Type} (k:Nat) (d x:α) (t:List α):(List.replicate (k+1) d++t).set k x=List.replicate k d++x::t:=by
 rw [List.replicate_succ',List.append_assoc,List.set_append_right _ _ (by simp)]
 simp
theorem zdC {d:Int} {x:Val Y33} {k:Nat} (hx:okN d x) (hk:(k:Int)<d):qcF x k=qaq x k:=by
 obtain ⟨h1,h2,h3⟩:=hx
 have hr:0≤(k:Int)∧(k:Int)<(x.1:Int):=⟨by omega,by rw [h3];omega⟩
 unfold qcF;rw [h1,decide_eq_true hr];rfl
theorem q8x {d:Int} {x:Val Y33} {k:Nat} (hx:okN d x) (hm:(qaq x k).2=true):okN d (qaq x k).1:=by
 have:=qHD hx.1 hm
 rw [hx.2.2]at this
 exact this
abbrev zid:Option (qc [i48,i4]):=some (([]:List (Val Y33)),false,())
theorem q6A (N:Nat) (d:Int) (hd:0≤d∧d≤4) (K:List (Val Y33)→Option (qc [i48,i4])): ∀(k:Nat) (x:Val Y33) (t:List (Val Y33)),okN d x→(k:Int)≤d→ ∀n,k<n→
 qkC N K n ((k:Int) - 1) (List.replicate k dC++x::t)=match qes k x with
  | some l=>K (l++t)
  | none=>zid
 | 0,x,t,_,_,n+1,_=>by
   rw [qkC,qi (by omega)]
   rfl
 | k+1,x,t,hx,hk,n+1,hn=>by
   have e:((k+1:Nat):Int) - 1=(k:Int):=by omega
   have e1:IntKind.i64.wrap ((k:Int)+1)=((k+1:Nat):Int):=by rw [qaC (by omega) (by omega)];omega
   have e2:IntKind.i64.wrap ((k:Int) - 1)=(k:Int) - 1:=qaC (by omega) (by omega)
   have hl:(List.replicate (k+1) dC++x::t).length=k+1+(t.length+1):=by simp;omega
   have g1:(List.replicate (k+1) dC++x::t).getD (((k+1:Nat):Int)).toNat (qb Y33)=x:=zdg (k+1) dC x t
   rw [e,qkC,qj (by omega),e1,e2,qe (by omega),qe (by omega),g1,zdC hx (by omega),qes]
   cases hm:(qaq x k).2 with
   | false=>rfl
   | true=>
     have hN:=q8x hx hm
     simp only [Bool.not_true,cond_false,cond_true]
     rw [qe (by omega),qe (by omega)]
     have ex:(((((qaq x k).1).1:Int),(((qaq x k).1).2:List (Val qa))):Val Y33)=(qaq x k).1:=rfl
     have es:(List.replicate (k+1) dC++x::t).set (k:Int).toNat (qaq x k).1=List.replicate k dC++(qaq x k).1::x::t:=q9Y k dC _ _
     rw [ex,es,q6A N d hd K k (qaq x k).1 (x::t) hN (by omega) n (by omega)]
     cases qes k (qaq x k).1 with
     | none=>rfl
     | some l=>simp
theorem zwa (c:Val Y33): ∃N,qFQ N c=some ((qfV c).1,(qfV c).2,()):=⟨6,by
 rw [qFQ]
 unfold qfV
 cases hc:qz c with
 | false=>rfl
 | true=>
 obtain ⟨hd,hl,hok⟩:=qaG hc
 obtain ⟨hL,hN⟩:=qe4 hc
 obtain ⟨d,xs⟩:=c
 change Int at d
 change List (Val qa)at xs
 change 0≤d∧d≤4 at hd
 change okN d _ at hN
 have e0:IntKind.i64.wrap (d+1)=d+1:=qaC (by omega) (by omega)
 have e1:IntKind.i64.wrap (d - 1)=d - 1:=qaC (by omega) (by omega)
 have ed:((d.toNat:Nat):Int)=d:=Int.toNat_of_nonneg hd.1
 have e2:(d+1).toNat=d.toNat+1:=by omega
 simp only [Bool.not_true,cond_false,cond_true]
 rw [e0,e1,qe (by omega),qe (show qaF d xs from hL),e2,qe (show 0≤d∧d<(((List.replicate (d.toNat+1) dC).length:Nat):Int) from by rw [List.length_replicate];omega),qe (show d.toNat<(List.replicate (d.toNat+1) dC).length from by rw [List.length_replicate];omega)]
 have ex:((((qv d xs).1:Int),((qv d xs).2:List (Val qa))):Val Y33)=qv d xs:=rfl
 have es:(List.replicate (d.toNat+1) (qb Y33)).set d.toNat (qv d xs)=List.replicate d.toNat dC++[qv d xs]:=by
  have:=q9Y d.toNat dC (qv d xs) []
  rw [List.append_nil]at this
  exact this
 have t:=fun K=>q6A 6 d hd K d.toNat (qv d xs) [] hN (by omega) 6 (by omega)
 simp only [ed]at t
 try rw [ex]
 rw [es]
 refine (t _).trans ?_
 cases qes d.toNat (qv d xs)with
 | none=>rfl
 | some l=>simp⟩
theorem zv8:Sound Tryz.prog 225 qC6:=qr (tt:=tt) (Γ:=qiS) hT (qg qjP (qg qrK (qg zaP qn))) hm (fn:=Tryz.f225) Tryz.func225 (c:=Tryz.f225.body.getD .skip) (by kernel_rfl) (by kernel_rfl) fun x hx=>by
 obtain ⟨N,h⟩:=zwa x.1
 exact ⟨qd3 N,zrD,qu _,zkY N,(zyi N x.1).trans h⟩
theorem q8b: ∀(k:Nat) (x:Val Y33),(qes k x).map (fun l=>l.getD 0 dC)=qch (-1) k x∧ ∀l,qes k x=some l→0<l.length
 | 0,x=>⟨rfl,fun l h=>by simp only [qes,Option.some.injEq]at h;subst h;simp⟩
 | k+1,x=>by
   have hk: ¬(k:Int)= -1:=by omega
   simp only [qes,qch,if_neg hk]
   cases hm:(qaq x k).2 with
   | false=>exact ⟨rfl,fun l h=>by simp at h⟩
   | true=>
     obtain ⟨h1,h2⟩:=q8b k (qaq x k).1
     simp only [cond_true]
     rw [←h1]
     cases hp:qes k (qaq x k).1 with
     | none=>exact ⟨rfl,fun l h=>by simp at h⟩
     | some l=>
       have hl:=h2 l hp
       refine ⟨?_,fun l' h=> ?_⟩
       ·simp only [Option.map_some]
        congr 1
        show (l++[x]).getD 0 dC=l.getD 0 dC
        rw [List.getD_eq_getElem?_getD,List.getD_eq_getElem?_getD,List.getElem?_append_left hl]
       ·simp only [Option.some.injEq]at h
        subst h;simp
theorem ztd (c:Val Y33): ∃N,qzq N c=some ((qar c).1,(qar c).2,()):=⟨0,by
 rw [qzq]
 unfold qfV qar
 cases hc:qz c with
 | false=>rfl
 | true=>
   obtain ⟨h1,h2⟩:=q8b (c.1:Int).toNat (qv c.1 c.2)
   simp only [cond_true]
   rw [←h1]
   cases hp:qes (c.1:Int).toNat (qv c.1 c.2)with
   | none=>rfl
   | some l=>
     have hl:=h2 l hp
     simp only [Bool.not_true,cond_false,Option.map_some]
     rw [qe (by omega),qe (by simpa using hl)]
     rfl⟩
theorem qSF:Sound Tryz.prog 212 qcC:=qr (tt:=tt) (Γ:=qY2) hT (qg zv8 qn) hm (fn:=Tryz.f212) Tryz.func212 (c:=Tryz.f212.body.getD .skip) (by kernel_rfl) (by kernel_rfl) fun x hx=>by
 obtain ⟨N,h⟩:=ztd x.1
 exact ⟨qfb N,zBp,qu _,zmd N,(zoT N x.1).trans h⟩
abbrev zcK:Option (qc [i4,i4]):=some (false,false,())
theorem q8h (N:Nat) (d:Int) (hd:0≤d∧d≤4) (K:Int→List (Val qa)→Option (qc [i4,i4])): ∀(k:Nat) (x:Val Y33),okN d x→(k:Int)≤d→ ∀n,k<n→
 qkX N K n ((k:Int) - 1) x.1 x.2=match qch (-1) k x with
  | some y=>K y.1 y.2
  | none=>zcK
 | 0,x,_,_,n+1,_=>by
   rw [qkX,qi (by omega)]
   rfl
 | k+1,x,hx,hk,n+1,hn=>by
   have e:((k+1:Nat):Int) - 1=(k:Int):=by omega
   have e2:IntKind.i64.wrap ((k:Int) - 1)=(k:Int) - 1:=qaC (by omega) (by omega)
   have hkn: ¬(k:Int)= -1:=by omega
   have ex:(((x.1:Int),(x.2:List (Val qa))):Val Y33)=x:=rfl
   have hr:0≤(k:Int)∧(k:Int)<(x.1:Int):=⟨by omega,by rw [hx.2.2];omega⟩
   rw [e,qkX,qj (by omega),e2,qch,if_neg hkn,ex,qe (show qnN x k from ⟨hx.1,hr⟩)]
   cases hm:(qaq x k).2 with
   | false=>rfl
   | true=>exact q8h N d hd K k (qaq x k).1 (q8x hx hm) (by omega) n (by omega)
theorem ziC (c:Val Y33) (h:qlb c): ∃N,qEM N c=some ((qar c).1,(qar c).2,()):=⟨6,by
 rw [qEM,qe (show qbf c from h)]
 unfold qar
 cases hc:qz c with
 | false=>rfl
 | true=>
 obtain ⟨hd,hl,hok⟩:=qaG hc
 obtain ⟨hL,hN⟩:=qe4 hc
 obtain ⟨d,xs⟩:=c
 change Int at d
 change List (Val qa)at xs
 change 0≤d∧d≤4 at hd
 change okN d _ at hN
 have e1:IntKind.i64.wrap (d - 1)=d - 1:=qaC (by omega) (by omega)
 have ed:((d.toNat:Nat):Int)=d:=Int.toNat_of_nonneg hd.1
 simp only [Bool.not_true,cond_false,cond_true]
 rw [e1,qe (show qaF d xs from hL)]
 have t:=fun K=>q8h 6 d hd K d.toNat (qv d xs) hN (by omega) 6 (by omega)
 simp only [ed]at t
 refine (t _).trans ?_
 cases qch (-1) d.toNat (qv d xs)<;>rfl⟩
theorem q1f:Sound Tryz.prog 208 qcB:=qr (tt:=tt) (Γ:=qi6) hT (qg qsA (qg qhd (qg q7Y qn))) hm (fn:=Tryz.f208) Tryz.func208 (c:=Tryz.f208.body.getD .skip) (by kernel_rfl) (by kernel_rfl) fun x hx=>by
 obtain ⟨N,h⟩:=ziC x.1 hx
 exact ⟨qd8 N,zwO,qu _,zdm N,(ztP N x.1).trans h⟩
theorem zAi {a b:Val Y33} (h:(qZ a b).2=true):okN a.1 (qZ a b).1:=by
 unfold qZ at*
 cases ha:qz a with
 | false=>rw [ha]at h;simp at h
 | true=>
   cases hb:qz b with
   | false=>rw [ha,hb]at h;simp at h
   | true=>
     by_cases hd:(a.1:Int)=(b.1:Int)
     ·rw [ha,hb,decide_eq_true hd]at h
      rw [decide_eq_true hd]
      exact qZL (qGR ha hb hd).1 h
     ·rw [ha,hb,decide_eq_false hd]at h;simp at h
theorem zzb {a:Val qa} (h:(qt a).2=true):List.length (α:=Int) (qt a).1.1=List.length (α:=Int) a.1:=by
 unfold qt at*
 cases ha:qP a with
 | false=>rw [ha]at h;simp at h
 | true=>simp
theorem zxI (c:Val Y33) (a:Val qa): ∃N,qHk N c a=some ((qa3 c a).1,(qa3 c a).2,()):=⟨0,by
 rw [qHk]
 unfold qa3
 cases hn:(qt a).2 with
 | false=>rfl
 | true=>
   have e1:=zzb hn
   have ex:((((qt a).1.1:List (Val (.int .i64))),(((qt a).1.2).1:Int),(((qt a).1.2).2:Bool)):Val qa)=(qt a).1:=rfl
   have e2:((((List.length (α:=Int) (qt a).1.1:Nat):Int),([(qt a).1]:List (Val qa))):Val Y33)=qim (qt a).1 (List.length (α:=Int) a.1:Int):=by rw [e1];rfl
   rw [ex]
   simp only [Bool.not_true,cond_false,Bool.true_and]
   rw [show (((((qt a).1.1:List (Val (.int .i64))).length:Int),([(qt a).1]:List (Val qa))):Val Y33)=qim (qt a).1 (List.length (α:=Int) a.1:Int) from e2]
   cases (qZ c (qim (qt a).1 (List.length (α:=Int) a.1:Int))).2<;>rfl⟩
theorem zoW:Sound Tryz.prog 220 qih:=qr (tt:=tt) (Γ:=qtY) hT (qg zai (qg qSF (qg q7H qn))) hm (fn:=Tryz.f220) Tryz.func220 (c:=Tryz.f220.body.getD .skip) (by kernel_rfl) (by kernel_rfl) fun x hx=>by
 obtain ⟨N,h⟩:=zxI x.1 x.2.1
 exact ⟨qfM N,zuH,qu _,zeB N,(zn9 N x.1 x.2.1).trans h⟩
theorem zie (c:Val Y33) (a:Val qa) (h:qq3 c a): ∃N,qDp N c a=some ((qa3 c a).1,(qa3 c a).2,()):=⟨0,by
 have ex:((((qt a).1.1:List (Val (.int .i64))),(((qt a).1.2).1:Int),(((qt a).1.2).2:Bool)):Val qa)=(qt a).1:=rfl
 have e2:((((a.1:List (Val (.int .i64))).length:Int),([(qt a).1]:List (Val qa))):Val Y33)=qim (qt a).1 (List.length (α:=Int) a.1:Int):=rfl
 rw [qDp,ex,e2,qe (show qoI a from h.2),qe (show qnz c (qim (qt a).1 _) from ⟨h.1,by show 1≤1048576;decide⟩)]
 unfold qa3
 cases hn:(qt a).2 with
 | false=>rfl
 | true=>
   cases hm:(qZ c (qim (qt a).1 (List.length (α:=Int) a.1:Int))).2 with
   | false=>rfl
   | true=>
     simp only [Bool.not_true,cond_false,Bool.and_self,cond_true]
     refine qe ?_
     have:=(qaG (zAi hm).1).2.1
     show List.length (α:=Val qa) _≤1048576
     omega⟩
theorem zpb:Sound Tryz.prog 283 qhT:=qr (tt:=tt) (Γ:=qqK) hT (qg q8V (qg q1f (qg q6Q qn))) hm (fn:=Tryz.f283) Tryz.func283 (c:=Tryz.f283.body.getD .skip) (by kernel_rfl) (by kernel_rfl) fun x hx=>by
 obtain ⟨N,h⟩:=zie x.1 x.2.1 hx
 exact ⟨qf9 N,ze1,qu _,zdV N,(zcV N x.1 x.2.1).trans h⟩
end Go.T
