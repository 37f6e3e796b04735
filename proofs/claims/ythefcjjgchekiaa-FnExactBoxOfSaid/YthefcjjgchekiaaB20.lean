/- Boxes: what the functions compute. -/
import Derived.Test.YthefcjjgchekiaaB19
set_option linter.unusedSimpArgs false
set_option linter.unusedVariables false
namespace Go.T
open Go Go.Proofs
set_option maxHeartbeats 4000000
set_option maxRecDepth 100000
abbrev qDm:Option (qb [i46,i4]):=some (([]:List (Val Y66)),false,())
theorem t20 (N:Nat) (c:Val Y32) (hd:(c.1:Int)≤4) (K:List (Val Y66)→Option (qb [i46,i4])): ∀(k v:Nat) (s:List (Val Y66)),((v+k:Nat):Int)=c.1→s.length+k≤1000→ ∀n,k<n→
 qgg N c.1 c.2 K n v s=match qcS c k v s with
  | some l=>K l
  | none=>qDm
 | 0,v,s,hv,_,n+1,_=>by
   rw [qgg,qi (by rw [←hv];omega)]
   rfl
 | k+1,v,s,hv,hs,n+1,hn=>by
   have h4:((v+(k+1):Nat):Int)≤4:=Int.le_trans (Int.le_of_eq hv) hd
   have e2:IntKind.i64.wrap ((v:Int)+1)=((v+1:Nat):Int):=by rw [qb5 (by omega) (by omega)];omega
   have ex:(((c.1:Int),(c.2:List (Val Y36))):Val Y32)=c:=rfl
   rw [qgg,qh (by rw [←hv];omega),ex,e2,qcS]
   cases hb:(qC c v).2 with
   | false=>rfl
   | true=>
     simp only [Bool.not_true,cond_false,cond_true]
     rw [qc (by simp;omega)]
     exact t20 N c hd K k (v+1) _ (by rw [←hv];omega) (by simp;omega) n (by omega)
theorem e20 (c:Val Y32): ∃N,m20 N c=some ((qS c).1,(qS c).2,()):=⟨6,by
 rw [m20]
 unfold qS
 cases hc:qac c with
 | false=>rfl
 | true=>
 obtain ⟨hd,hl,hok⟩:=qcI hc
 have ed:(((c.1:Int).toNat:Nat):Int)=(c.1:Int):=Int.toNat_of_nonneg hd.1
 have hk:(c.1:Int).toNat<6:=by
  have:=hd.2
  have:(((c.1:Int).toNat:Nat):Int)≤4:=by rw [ed];exact this
  omega
 simp only [Bool.not_true,cond_false,cond_true]
 refine (t20 6 c hd.2 _ (c.1:Int).toNat 0 [] (by rw [Nat.zero_add,ed]) (by simp;omega) 6 hk).trans ?_
 cases qcS c (c.1:Int).toNat 0 []<;>rfl⟩
theorem s20:Sound Try.prog 20 g20:=qw (tt:=tt) (Γ:=Γ20) hT (qf s40 (qf s41 qq)) hm (fn:=Try.f20) Try.func20 (c:=Try.f20.body.getD .skip) (by kernel_rfl) (by kernel_rfl) fun x hx=>by
 obtain ⟨N,h⟩:=e20 x.1
 exact ⟨T20 N,p20,qx _,qK5 N,(qQg N x.1).trans h⟩
theorem t19 (N:Nat) (c:Val Y32) (hc:qac c=true) (hd:(c.1:Int)≤4) (hp:qda c) (K:List (Val Y66)→Option (qb [i46,i4])): ∀(k v:Nat) (s:List (Val Y66)),((v+k:Nat):Int)=c.1→s.length+k≤1000→ ∀n,k<n→
 qeO N c.1 c.2 K n v s=match qcS c k v s with
  | some l=>K l
  | none=>qDm
 | 0,v,s,hv,_,n+1,_=>by
   rw [qeO,qi (by rw [←hv];omega)]
   rfl
 | k+1,v,s,hv,hs,n+1,hn=>by
   have h4:((v+(k+1):Nat):Int)≤4:=Int.le_trans (Int.le_of_eq hv) hd
   have e2:IntKind.i64.wrap ((v:Int)+1)=((v+1:Nat):Int):=by rw [qb5 (by omega) (by omega)];omega
   have ex:(((c.1:Int),(c.2:List (Val Y36))):Val Y32)=c:=rfl
   rw [qeO,qh (by rw [←hv];omega),ex,e2,qcS,qc hp,hc,cond_true,qc (show qnt c v from hp)]
   cases hb:(qC c v).2 with
   | false=>rfl
   | true=>
     simp only [Bool.not_true,cond_false,cond_true]
     rw [qc (by simp;omega)]
     exact t19 N c hc hd hp K k (v+1) _ (by rw [←hv];omega) (by simp;omega) n (by omega)
theorem e19 (c:Val Y32) (h:qpf c): ∃N,m19 N c=some ((qS c).1,(qS c).2,()):=⟨6,by
 have hp:qda c:=h
 rw [m19]
 unfold qS
 cases hc:qac c with
 | false=>
   have ex:(((c.1:Int),(c.2:List (Val Y36))):Val Y32)=c:=rfl
   rw [qeO,ex,qc hp,hc,qc hp]
   cases decide ((0:Int)<(c.1:Int))<;>rfl
 | true=>
 obtain ⟨hd,hl,hok⟩:=qcI hc
 have ed:(((c.1:Int).toNat:Nat):Int)=(c.1:Int):=Int.toNat_of_nonneg hd.1
 have hk:(c.1:Int).toNat<6:=by
  have:=hd.2
  have:(((c.1:Int).toNat:Nat):Int)≤4:=by rw [ed];exact this
  omega
 simp only [cond_true]
 refine (t19 6 c hc hd.2 hp _ (c.1:Int).toNat 0 [] (by rw [Nat.zero_add,ed]) (by simp;omega) 6 hk).trans ?_
 cases qcS c (c.1:Int).toNat 0 []with
 | none=>rfl
 | some l=>exact qc hp⟩
theorem s19:Sound Try.prog 19 g19:=qw (tt:=tt) (Γ:=Γ19) hT (qf s38 (qf s39 qq)) hm (fn:=Try.f19) Try.func19 (c:=Try.f19.body.getD .skip) (by kernel_rfl) (by kernel_rfl) fun x hx=>by
 obtain ⟨N,h⟩:=e19 x.1 hx
 exact ⟨T19 N,p19,qx _,qJq N,(qLw N x.1).trans h⟩
theorem qCv (c:Val Y32): ∀(k v:Nat) {s l:List (Val Y66)},qcS c k v s=some l→l.length=s.length+k
 | 0,v,s,l,h=>by simp only [qcS,Option.some.injEq]at h;subst h;rfl
 | k+1,v,s,l,h=>by
   rw [qcS]at h
   cases hb:(qC c v).2 with
   | false=>rw [hb]at h;simp at h
   | true=>
     rw [hb]at h
     have:=qCv c k (v+1) h
     simp at this
     omega
theorem qPv (c:Val Y32):List.length (α:=Val Y66) (qS c).1≤4∧((qS c).2=false→(qS c).1=[]):=by
 unfold qS
 cases hc:qac c with
 | false=>exact ⟨by simp,fun _=>rfl⟩
 | true=>
   obtain ⟨hd,_,_⟩:=qcI hc
   have ed:(((c.1:Int).toNat:Nat):Int)=(c.1:Int):=Int.toNat_of_nonneg hd.1
   have hk:(c.1:Int).toNat≤4:=by
    have:=hd.2
    have:(((c.1:Int).toNat:Nat):Int)≤4:=by rw [ed];exact this
    omega
   cases hb:qcS c (c.1:Int).toNat 0 []with
   | none=>exact ⟨by simp,fun _=>rfl⟩
   | some l=>
     have:=qCv c _ _ hb
     exact ⟨by simp at this ⊢;omega,fun h=>by simp at h⟩
end Go.T
