/- Variables that are fixed: what the functions compute. -/
import Derived.Test.YthefcjjgchekiaaGreatE17
set_option linter.unusedSimpArgs false
set_option linter.unusedVariables false
namespace Go.T
open Go Go.Proofs
set_option maxHeartbeats 4000000
set_option maxRecDepth 100000
theorem q5x {a:Val qa} (h:qP a=true): -400000000≤(a.2.1:Int)∧ @LE.le Int _ a.2.1 400000000:=by
 unfold qP at h
 simp only [Bool.and_eq_true]at h
 obtain ⟨⟨⟨_,h2⟩,_⟩,_⟩:=h
 exact of_decide_eq_true h2
theorem qtO (co:List (Val (.int .i64))) (v:Nat) (e:Int):(qcG co v e).length=co.length:=by
 unfold qcG;rw [List.length_set,List.length_map]
theorem zat {co:List (Val (.int .i64))} {e:Int} (v:Nat) (hx: ∀x∈co, -400000000≤(x:Int)∧ @LE.le Int _ x 400000000) (he: -400000000≤e∧e≤400000000): ∀x∈qcG co v e,inI x:=by
 intro x h
 rcases List.mem_or_eq_of_mem_set h with h | h
 ·obtain ⟨y,hy,rfl⟩:=List.mem_map.1 h
  have:=qlM (hx y hy) he
  show inI ((y:Int)*e)
  unfold inI
  generalize (y:Int)*e=z at*
  omega
 ·subst h;exact ⟨by decide,by decide⟩
theorem zli (N:Nat) (v3:Int) (co:List (Val (.int .i64))) (v7:Int) (v8:Bool) (v9 e v11:Int) (v12:Bool) (K:List (Val (.int .i64))→Option (qc [ql,i4])) (hl:co.length≤1048576) (hx: ∀x∈co, -400000000≤(x:Int)∧ @LE.le Int _ x 400000000) (he: -400000000≤e∧e≤400000000) (n:Nat) (hn:co.length<n):
 qiQ N v3 co.length co v7 v8 v9 e v11 v12 K n 0 (List.replicate co.length (qb (.int .i64)))=K (List.map (α:=Int) (fun x=>x*e) co):=by
 have:=qkI (xs:=List.map (α:=Int) (fun x=>x*e) co) (F:=fun n i s'=>qiQ N v3 co.length co v7 v8 v9 e v11 v12 K n i s') (k:=K) (qb (.int .i64)) (by simpa using hl) (fun n i s' hi hs=> ?_) (fun n i s' hi=> ?_) n (by simpa using hn)
 ·simpa using this
 ·have hi:i<co.length:=by simpa using hi
  have hs:s'.length=co.length:=by simpa using hs
  rw [qiQ,qj (by omega),qe (by omega),qe (by omega),qe (by simp;omega),qI hi,qj6 (hx _ (List.getElem_mem hi)) he]
  simp
 ·have hi:co.length≤i:=by simpa using hi
  rw [qiQ,qi (by omega)]
theorem q23 (N:Nat) (v:Int) (co:List (Val (.int .i64))) (v6:Int) (v7:Bool) (v8 e v10:Int) (v11:Bool) (K:List (Val (.int .i64))→Option (qc [ql,i4])) (hv:0≤v) (hl:co.length≤1000) (hx: ∀x∈co, -400000000≤(x:Int)∧ @LE.le Int _ x 400000000) (he: -400000000≤e∧e≤400000000): ∀(k i:Nat),i+k=co.length→ ∀n,k<n→ ∀(s:List (Val (.int .i64))),s.length=i→
 qhQ N v co v6 v7 v8 e v10 v11 K n (i:Int) s=K (s++(qcG co v.toNat e).drop i)
 | 0,i,hi,n+1,_,s,_=>by
   rw [qhQ,qi (by omega),List.drop_eq_nil_of_le (by rw [qtO];omega),List.append_nil]
 | k+1,i,hi,n+1,hn,s,hs=>by
   have h1:i<co.length:=by omega
   have h2:i<(qcG co v.toNat e).length:=by rw [qtO];exact h1
   rw [qhQ,qj (by omega),qbr h1 (by omega),qbE h2]
   by_cases hiv:(i:Int)=v
   ·have eg:(qcG co v.toNat e)[i]=(0:Int):=by
     have:v.toNat=i:=by omega
     simp only [qcG,this,List.getElem_set_self]
    rw [qj hiv,qe (by simp only [List.length_singleton];omega),eg]
    refine (q23 N v co v6 v7 v8 e v10 v11 K hv hl hx he k (i+1) (by omega) n (by omega) (s++[(0:Int)]) (by rw [List.length_append,hs];rfl)).trans ?_
    rw [List.append_assoc];rfl
   ·have eg:(qcG co v.toNat e)[i]=(co[i]:Int)*e:=by
     have:v.toNat≠i:=by omega
     simp only [qcG,List.getElem_set_ne this,List.getElem_map]
    rw [qi hiv,qe (by omega),qe (by simp only [List.length_singleton];omega),eg,qI h1,qj6 (hx _ (List.getElem_mem h1)) he]
    refine (q23 N v co v6 v7 v8 e v10 v11 K hv hl hx he k (i+1) (by omega) n (by omega) (s++[(co[i]:Int)*e]) (by rw [List.length_append,hs];rfl)).trans ?_
    rw [List.append_assoc];rfl
theorem zaK {a:Val qa} {v:Int} {r:Val Y28} (ha:qP a=true) (hr:qE r=true) (hv:0≤v∧v<(List.length (α:=Int) a.1:Int)):
 IntKind.i64.wrap (IntKind.i64.wrap ((a.2.1:Int)*(r.2:Int))+IntKind.i64.wrap (((List.getD (α:=Val (.int .i64)) a.1 v.toNat (qb (.int .i64))):Int)*(r.1:Int)))=(a.2.1:Int)*r.2+(List.getD (α:=Int) a.1 v.toNat 0)*r.1∧inI ((a.2.1:Int)*r.2+(List.getD (α:=Int) a.1 v.toNat 0)*r.1):=by
 obtain ⟨r1,r2⟩:=qct hr
 have hx:=(qbb ha).2.2
 have hg: -400000000≤List.getD (α:=Int) a.1 v.toNat 0∧List.getD (α:=Int) a.1 v.toNat 0≤400000000:=by
  have h1:v.toNat<List.length (α:=Int) a.1:=by omega
  rw [qen h1]
  exact hx _ (List.getElem_mem h1)
 have r2': -400000000≤(r.2:Int)∧ @LE.le Int _ r.2 400000000:=⟨Int.le_trans (by decide) r2.1,r2.2⟩
 have m1:=qlM (q5x ha) r2'
 have m2:=qlM hg r1
 have e1:=qj6 (q5x ha) r2'
 have e2:=qj6 hg r1
 change IntKind.i64.wrap (IntKind.i64.wrap ((a.2.1:Int)*(r.2:Int))+IntKind.i64.wrap (List.getD (α:=Int) a.1 v.toNat 0*r.1))=_∧_
 rw [e1,e2]
 generalize (a.2.1:Int)*r.2=p at*
 generalize List.getD (α:=Int) a.1 v.toNat 0*r.1=q at*
 exact ⟨qaC (by omega) (by omega),by unfold inI;omega⟩
theorem zdP (a:Val qa) (v:Int) (r:Val Y28): ∃N,qBn N a v r=some ((qav a v r).1,(qav a v r).2,()):=⟨List.length (α:=Int) a.1+1,by
 rw [qBn]
 unfold qav
 cases ha:qP a with
 | false=>rfl
 | true=>
   cases hr:qE r with
   | false=>rfl
   | true=>
     simp only [Bool.not_true,cond_false,Bool.and_self,Bool.true_and]
     by_cases h1:v<0
     ·rw [qj h1,decide_eq_false (by omega)];rfl
     ·rw [qi h1]
      by_cases h2:(List.length (α:=Int) a.1:Int)≤v
      ·rw [qj h2,decide_eq_false (by omega)];rfl
      ·have hv:0≤v∧v<(List.length (α:=Int) a.1:Int):=by omega
       obtain ⟨h4,_,hx⟩:=qbb ha
       obtain ⟨r1,r2⟩:=qct hr
       have r2': -400000000≤(r.2:Int)∧ @LE.le Int _ r.2 400000000:=⟨Int.le_trans (by decide) r2.1,r2.2⟩
       obtain ⟨ec,ic⟩:=zaK ha hr hv
       rw [qi h2,decide_eq_true hv,qe (qik (by omega)),Int.toNat_natCast,List.length_replicate]
       refine (zli _ v a.1 a.2.1 a.2.2 r.1 r.2 0 false _ (by omega) hx r2' _ (Nat.lt_succ_self _)).trans ?_
       have hl:(List.map (α:=Int) (fun x=>x*(r.2:Int)) a.1).length=List.length (α:=Int) a.1:=List.length_map ..
       rw [ec,qe (by rw [hl];exact hv),qe (by rw [hl];omega),qe hv]
       exact qe (show qaS (qcG a.1 v.toNat r.2) _ _ from ⟨by rw [qtO];omega,ic,zat v.toNat hx r2'⟩)⟩
theorem zuE:Sound Tryz.prog 226 qnL:=qr (tt:=tt) (Γ:=qi2) hT (qg qiK (qg q7o (qg qnv qn))) hm (fn:=Tryz.f226) Tryz.func226 (c:=Tryz.f226.body.getD .skip) (by kernel_rfl) (by kernel_rfl) fun x hx=>by
 obtain ⟨N,h⟩:=zdP x.1 x.2.1 x.2.2.1
 exact ⟨qeb N,ztj,qu _,zkv N,(zlM N x.1 x.2.1 x.2.2.1).trans h⟩
theorem zrd (a:Val qa) (v:Int) (r:Val Y28) (_:qzn a v r): ∃N,qBB N a v r=some ((qav a v r).1,(qav a v r).2,()):=⟨List.length (α:=Int) a.1+1,by
 rw [qBB]
 unfold qav
 cases ha:qP a with
 | false=>rfl
 | true=>
   cases hr:qE r with
   | false=>rfl
   | true=>
     simp only [Bool.not_true,cond_false,Bool.and_self,Bool.true_and]
     obtain ⟨h4,_,hx⟩:=qbb ha
     have ew:IntKind.i64.wrap ((List.length (α:=Int) a.1:Int) - 1)=(List.length (α:=Int) a.1:Int) - 1:=qaC (by omega) (by omega)
     rw [ew]
     by_cases hv:0≤v∧v<(List.length (α:=Int) a.1:Int)
     ·obtain ⟨r1,r2⟩:=qct hr
      have r2': -400000000≤(r.2:Int)∧ @LE.le Int _ r.2 400000000:=⟨Int.le_trans (by decide) r2.1,r2.2⟩
      obtain ⟨ec,ic⟩:=zaK ha hr hv
      rw [qe0 ⟨hv.1,by omega⟩,decide_eq_true hv]
      simp only [Bool.not_true,cond_false,cond_true]
      refine (q23 _ v a.1 a.2.1 a.2.2 r.1 r.2 0 false _ hv.1 (by omega) hx r2' (List.length (α:=Int) a.1) 0 (by omega) _ (Nat.lt_succ_self _) [] rfl).trans ?_
      rw [List.nil_append,List.drop_zero,ec,qe hv]
      exact qe (show qaS (qcG a.1 v.toNat r.2) _ _ from ⟨by rw [qtO];omega,ic,zat v.toNat hx r2'⟩)
     ·rw [qfl (by omega),decide_eq_false hv];rfl⟩
theorem zoD:Sound Tryz.prog 223 qm7:=qr (tt:=tt) (Γ:=qhD) hT (qg qms (qg qgN (qg q9t (qg qrx qn)))) hm (fn:=Tryz.f223) Tryz.func223 (c:=Tryz.f223.body.getD .skip) (by kernel_rfl) (by kernel_rfl) fun x hx=>by
 obtain ⟨N,h⟩:=zrd x.1 x.2.1 x.2.2.1 hx
 exact ⟨qd4 N,zrc,qu _,zdK N,(zkj N x.1 x.2.1 x.2.2.1).trans h⟩
end Go.T
