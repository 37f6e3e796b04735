/- Bounds of a variable in a cell: what the functions compute. -/
import Derived.Test.YthefcjjgchekiaaGreatB16
set_option linter.unusedSimpArgs false
set_option linter.unusedVariables false
namespace Go.T
open Go Go.Proofs
set_option maxHeartbeats 4000000
set_option maxRecDepth 100000
abbrev q72:Option (qc [q8,i4]):=some ((false,((0:Int),(0:Int)),false,false,((0:Int),(0:Int)),false,false),false,())
theorem qL3 (N:Nat) (d v:Int) (hd:0≤d∧d≤4) (K:Int→List (Val qa)→Option (qc [q8,i4])): ∀(k:Nat) (x:Val Y33),okN d x→(k:Int)≤d→ ∀n,k<n→
 qiT N v false 0 0 false false 0 0 false false K n ((k:Int) - 1) x.1 x.2=match qch v k x with
  | some y=>K y.1 y.2
  | none=>q72
 | 0,x,_,_,n+1,_=>by
   rw [qiT,qi (by omega)]
   rfl
 | k+1,x,hx,hk,n+1,hn=>by
   have e:((k+1:Nat):Int) - 1=(k:Int):=by omega
   have e2:IntKind.i64.wrap ((k:Int) - 1)=(k:Int) - 1:=qaC (by omega) (by omega)
   rw [e,qiT,qj (by omega),e2,qch]
   by_cases h:(k:Int)=v
   ·rw [qj h,if_pos h]
    exact qL3 N d v hd K k x hx (by omega) n (by omega)
   ·rw [qi h,if_neg h]
    obtain ⟨h1,h2,h3⟩:=hx
    have ex:(((x.1:Int),(x.2:List (Val qa))):Val Y33)=x:=rfl
    have hr:0≤(k:Int)∧(k:Int)<(x.1:Int):=⟨by omega,by rw [h3];omega⟩
    have ed:qcF x k=qaq x k:=by unfold qcF;rw [h1,decide_eq_true hr];rfl
    rw [ex,ed]
    cases hm:(qaq x k).2 with
    | false=>rfl
    | true=>
      have hN:=qHD h1 hm
      rw [h3]at hN
      exact qL3 N d v hd K k (qaq x k).1 hN (by omega) n (by omega)
theorem qKr (N:Nat) (d v:Int) (hd:0≤d∧d≤4) (K:Int→List (Val qa)→Option (qc [q8,i4])): ∀(k:Nat) (x:Val Y33),okN d x→(k:Int)≤d→ ∀n,k<n→
 qiu N v false 0 0 false false 0 0 false false K n ((k:Int) - 1) x.1 x.2=match qch v k x with
  | some y=>K y.1 y.2
  | none=>q72
 | 0,x,_,_,n+1,_=>by
   rw [qiu,qi (by omega)]
   rfl
 | k+1,x,hx,hk,n+1,hn=>by
   have e:((k+1:Nat):Int) - 1=(k:Int):=by omega
   have e2:IntKind.i64.wrap ((k:Int) - 1)=(k:Int) - 1:=qaC (by omega) (by omega)
   rw [e,qiu,qj (by omega),e2,qch]
   by_cases h:(k:Int)=v
   ·rw [qj h,if_pos h]
    exact qKr N d v hd K k x hx (by omega) n (by omega)
   ·rw [qi h,if_neg h]
    obtain ⟨h1,h2,h3⟩:=hx
    have ex:(((x.1:Int),(x.2:List (Val qa))):Val Y33)=x:=rfl
    have hr:0≤(k:Int)∧(k:Int)<(x.1:Int):=⟨by omega,by rw [h3];omega⟩
    rw [ex,qe (show qnN x k from ⟨h1,hr⟩)]
    cases hm:(qaq x k).2 with
    | false=>rfl
    | true=>
      have hN:=qHD h1 hm
      rw [h3]at hN
      exact qKr N d v hd K k (qaq x k).1 hN (by omega) n (by omega)
theorem zpS (c:Val Y33) (v:Int) (h:qFW c v): ∃N,qz6 N c v=some ((qW c v).1,(qW c v).2,()):=⟨6,by
 rw [qz6,qe (show qbf c from h)]
 unfold qW
 cases hc:qz c with
 | false=>rfl
 | true=>
 obtain ⟨hd,hl,hok⟩:=qaG hc
 obtain ⟨hL,hN⟩:=qe4 hc
 have e1:IntKind.i64.wrap ((c.1:Int) - 1)=(c.1:Int) - 1:=qaC (Int.le_sub_right_of_add_le (Int.le_trans (by decide) hd.1)) (Int.le_trans (Int.sub_le_self _ (by decide)) (Int.le_trans hd.2 (by decide)))
 rw [e1]
 by_cases hv:0≤v∧v<(c.1:Int)
 ·rw [qe0 (show 0≤v∧v≤(c.1:Int) - 1 from ⟨hv.1,Int.le_sub_one_of_lt hv.2⟩),decide_eq_true hv]
  simp only [Bool.not_true,cond_false,Bool.and_self,cond_true]
  rw [qe (show qaF c.1 c.2 from hL)]
  have ed:(((c.1:Int).toNat:Nat):Int)=(c.1:Int):=Int.toNat_of_nonneg hd.1
  have hk:(c.1:Int).toNat<6:=by have:=hd.2;have:(((c.1:Int).toNat:Nat):Int)≤4:=by rw [ed];exact this
                                omega
  have t:=qKr 6 c.1 v hd (fun v17 v18=>chk (qnu (v17,v18) v) (some (qbj (v17,v18) v,true,()))) (c.1:Int).toNat (qv c.1 c.2) hN (by rw [ed];exact Int.le_refl _) 6 hk
  rw [ed]at t
  refine (show _=_ from t).trans ?_
  cases hm:qch v (c.1:Int).toNat (qv c.1 c.2)with
  | none=>rfl
  | some y=>
    have hy:=qDu _ hN hm
    exact qe (show qnu y v from ⟨hy.1,hy.2.1,hv.1,by rw [hy.2.2];exact hv.2⟩)
 ·rw [qfl (show ¬(0≤v∧v≤(c.1:Int) - 1) from fun h=>hv ⟨h.1,Int.lt_of_le_sub_one h.2⟩),decide_eq_false hv]
  rfl⟩
theorem zkK:Sound Tryz.prog 121 qpv:=qr (tt:=tt) (Γ:=qgd) hT (qg qsA (qg qgN (qg qhd (qg q7Y (qg zmH qn))))) hm (fn:=Tryz.f121) Tryz.func121 (c:=Tryz.f121.body.getD .skip) (by kernel_rfl) (by kernel_rfl) fun x hx=>by
 obtain ⟨N,h⟩:=zpS x.1 x.2.1 hx
 exact ⟨qdh N,zhK,qu _,zbd N,(zfs N x.1 x.2.1).trans h⟩
theorem zsL (c:Val Y33) (v:Int): ∃N,qEv N c v=some ((qW c v).1,(qW c v).2,()):=⟨6,by
 rw [qEv]
 unfold qW
 cases hc:qz c with
 | false=>rfl
 | true=>
 obtain ⟨hd,hl,hok⟩:=qaG hc
 obtain ⟨hL,hN⟩:=qe4 hc
 have e1:IntKind.i64.wrap ((c.1:Int) - 1)=(c.1:Int) - 1:=qaC (Int.le_sub_right_of_add_le (Int.le_trans (by decide) hd.1)) (Int.le_trans (Int.sub_le_self _ (by decide)) (Int.le_trans hd.2 (by decide)))
 simp only [Bool.not_true,cond_false,Bool.true_and]
 by_cases h1:v<0
 ·rw [qj h1,decide_eq_false (fun h=>absurd h.1 (Int.not_le.2 h1))];rfl
 rw [qi h1]
 by_cases h2:(c.1:Int)≤v
 ·rw [qj h2,decide_eq_false (fun h=>absurd h.2 (Int.not_lt.2 h2))];rfl
 have hv:0≤v∧v<(c.1:Int):=⟨Int.not_lt.1 h1,Int.not_le.1 h2⟩
 rw [qi h2,decide_eq_true hv,e1,qe (show qaF c.1 c.2 from hL)]
 simp only [cond_true]
 have ed:(((c.1:Int).toNat:Nat):Int)=(c.1:Int):=Int.toNat_of_nonneg hd.1
 have hk:(c.1:Int).toNat<6:=by
  have:=hd.2
  have:(((c.1:Int).toNat:Nat):Int)≤4:=by rw [ed];exact this
  omega
 have t:=fun K=>qL3 6 c.1 v hd K (c.1:Int).toNat (qv c.1 c.2) hN (by rw [ed];exact Int.le_refl _) 6 hk
 simp only [ed]at t
 refine (t _).trans ?_
 cases hm:qch v (c.1:Int).toNat (qv c.1 c.2)with
 | none=>rfl
 | some y=>
   have hy:=qDu _ hN hm
   have hvy:v<(y.1:Int):=by rw [hy.2.2];exact hv.2
   dsimp only
   have ey:(((y.1:Int),(y.2:List (Val qa))):Val Y33)=y:=rfl
   rw [ey,qe (show qlW y from hy.1),qe (show qr0 y v from ⟨hy.1,hv.1,hvy⟩)]
   unfold qbj
   cases qbM y with
   | true=>rfl
   | false=>
     obtain ⟨_,_,hoky⟩:=qaG hy.1
     have hb:qeW (qy y v):=qWi qCu fun a ha=>(hoky a ha).1
     generalize qy y v=b at hb
     obtain ⟨hl,l,lo,hh,g,ho,em⟩:=b
     have el:(((l.1:Int),(l.2:Int)):Val Y28)=l:=rfl
     have eg:(((g.1:Int),(g.2:Int)):Val Y28)=g:=rfl
     unfold qOp
     dsimp only
     rw [el,eg]
     cases hl with
     | false=>rfl
     | true=>
       cases hh with
       | false=>rfl
       | true=>
         have rl:qE l=true:=hb.1.2 rfl
         have rg:qE g=true:=hb.2.2 rfl
         rw [q6u rl rg]
         by_cases he:l=g
         ·subst he
          rw [qj ((qoY rl rl).2 rfl)]
          cases qaJ l l<;>cases lo<;>cases ho<;>simp [qBC]
         ·rw [qi (fun h=>he ((qoY rl rg).1 h)),decide_eq_false (fun h=>he h.symm)]
          cases qaJ g l<;>rfl⟩
theorem zzN:Sound Tryz.prog 158 qo8:=qr (tt:=tt) (Γ:=qeY) hT (qg q9U (qg qjP (qg zvv (qg qrK (qg zaP (qg q6V qn)))))) hm (fn:=Tryz.f158) Tryz.func158 (c:=Tryz.f158.body.getD .skip) (by kernel_rfl) (by kernel_rfl) fun x hx=>by
 obtain ⟨N,h⟩:=zsL x.1 x.2.1
 exact ⟨qdK N,zjp,qu _,zrE N,(zbJ N x.1 x.2.1).trans h⟩
end Go.T
