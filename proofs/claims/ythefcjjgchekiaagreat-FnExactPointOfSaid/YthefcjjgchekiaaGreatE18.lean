/- Variables that are fixed: what the functions compute. -/
import Derived.Test.YthefcjjgchekiaaGreatE17
set_option linter.unusedSimpArgs false
set_option linter.unusedVariables false
namespace Go.T
open Go Go.Proofs
set_option maxHeartbeats 4000000
set_option maxRecDepth 100000
theorem qZy {a:Val qa} (h:qG a=true): -400000000≤(a.2.1:Int)∧ @LE.le Int _ a.2.1 400000000:=by
 unfold qG at h
 simp only [Bool.and_eq_true]at h
 obtain ⟨⟨⟨_,h2⟩,_⟩,_⟩:=h
 exact of_decide_eq_true h2
theorem qp0 (co:List (Val (.int .i64))) (v:Nat) (e:Int):(qbY co v e).length=co.length:=by
 unfold qbY;rw [List.length_set,List.length_map]
theorem qY6 {co:List (Val (.int .i64))} {e:Int} (v:Nat) (hx: ∀x∈co, -400000000≤(x:Int)∧ @LE.le Int _ x 400000000) (he: -400000000≤e∧e≤400000000): ∀x∈qbY co v e,inI x:=by
 intro x h
 rcases List.mem_or_eq_of_mem_set h with h | h
 ·obtain ⟨y,hy,rfl⟩:=List.mem_map.1 h
  have:=qhL (hx y hy) he
  show inI ((y:Int)*e)
  unfold inI
  generalize (y:Int)*e=z at*
  omega
 ·subst h;exact ⟨by decide,by decide⟩
theorem zl5 (N:Nat) (v3:Int) (co:List (Val (.int .i64))) (v7:Int) (v8:Bool) (v9 e v11:Int) (v12:Bool) (K:List (Val (.int .i64))→Option (qc [qr,i4])) (hl:co.length≤1048576) (hx: ∀x∈co, -400000000≤(x:Int)∧ @LE.le Int _ x 400000000) (he: -400000000≤e∧e≤400000000) (n:Nat) (hn:co.length<n):
 qiX N v3 co.length co v7 v8 v9 e v11 v12 K n 0 (List.replicate co.length (qb (.int .i64)))=K (List.map (α:=Int) (fun x=>x*e) co):=by
 have:=qmK (xs:=List.map (α:=Int) (fun x=>x*e) co) (F:=fun n i s'=>qiX N v3 co.length co v7 v8 v9 e v11 v12 K n i s') (k:=K) (qb (.int .i64)) (by simpa using hl) (fun n i s' hi hs=> ?_) (fun n i s' hi=> ?_) n (by simpa using hn)
 ·simpa using this
 ·have hi:i<co.length:=by simpa using hi
  have hs:s'.length=co.length:=by simpa using hs
  rw [qiX,qk (by omega),qd (by omega),qd (by omega),qd (by simp;omega),qF hi,qgS (hx _ (List.getElem_mem hi)) he]
  simp
 ·have hi:co.length≤i:=by simpa using hi
  rw [qiX,qj (by omega)]
theorem qQr (N:Nat) (v:Int) (co:List (Val (.int .i64))) (v6:Int) (v7:Bool) (v8 e v10:Int) (v11:Bool) (K:List (Val (.int .i64))→Option (qc [qr,i4])) (hv:0≤v) (hl:co.length≤1000) (hx: ∀x∈co, -400000000≤(x:Int)∧ @LE.le Int _ x 400000000) (he: -400000000≤e∧e≤400000000): ∀(k i:Nat),i+k=co.length→ ∀n,k<n→ ∀(s:List (Val (.int .i64))),s.length=i→
 qjb N v co v6 v7 v8 e v10 v11 K n (i:Int) s=K (s++(qbY co v.toNat e).drop i)
 | 0,i,hi,n+1,_,s,_=>by
   rw [qjb,qj (by omega),List.drop_eq_nil_of_le (by rw [qp0];omega),List.append_nil]
 | k+1,i,hi,n+1,hn,s,hs=>by
   have h1:i<co.length:=by omega
   have h2:i<(qbY co v.toNat e).length:=by rw [qp0];exact h1
   rw [qjb,qk (by omega),qa2 h1 (by omega),qbo h2]
   by_cases hiv:(i:Int)=v
   ·have eg:(qbY co v.toNat e)[i]=(0:Int):=by
     have:v.toNat=i:=by omega
     simp only [qbY,this,List.getElem_set_self]
    rw [qk hiv,qd (by simp only [List.length_singleton];omega),eg]
    refine (qQr N v co v6 v7 v8 e v10 v11 K hv hl hx he k (i+1) (by omega) n (by omega) (s++[(0:Int)]) (by rw [List.length_append,hs];rfl)).trans ?_
    rw [List.append_assoc];rfl
   ·have eg:(qbY co v.toNat e)[i]=(co[i]:Int)*e:=by
     have:v.toNat≠i:=by omega
     simp only [qbY,List.getElem_set_ne this,List.getElem_map]
    rw [qj hiv,qd (by omega),qd (by simp only [List.length_singleton];omega),eg,qF h1,qgS (hx _ (List.getElem_mem h1)) he]
    refine (qQr N v co v6 v7 v8 e v10 v11 K hv hl hx he k (i+1) (by omega) n (by omega) (s++[(co[i]:Int)*e]) (by rw [List.length_append,hs];rfl)).trans ?_
    rw [List.append_assoc];rfl
theorem q2b {a:Val qa} {v:Int} {r:Val Y28} (ha:qG a=true) (hr:qi r=true) (hv:0≤v∧v<(List.length (α:=Int) a.1:Int)):
 IntKind.i64.wrap (IntKind.i64.wrap ((a.2.1:Int)*(r.2:Int))+IntKind.i64.wrap (((List.getD (α:=Val (.int .i64)) a.1 v.toNat (qb (.int .i64))):Int)*(r.1:Int)))=(a.2.1:Int)*r.2+(List.getD (α:=Int) a.1 v.toNat 0)*r.1∧inI ((a.2.1:Int)*r.2+(List.getD (α:=Int) a.1 v.toNat 0)*r.1):=by
 obtain ⟨r1,r2⟩:=qbe hr
 have hx:=(qbv ha).2.2
 have hg: -400000000≤List.getD (α:=Int) a.1 v.toNat 0∧List.getD (α:=Int) a.1 v.toNat 0≤400000000:=by
  have h1:v.toNat<List.length (α:=Int) a.1:=by omega
  rw [qtG h1]
  exact hx _ (List.getElem_mem h1)
 have r2': -400000000≤(r.2:Int)∧ @LE.le Int _ r.2 400000000:=⟨Int.le_trans (by decide) r2.1,r2.2⟩
 have m1:=qhL (qZy ha) r2'
 have m2:=qhL hg r1
 have e1:=qgS (qZy ha) r2'
 have e2:=qgS hg r1
 change IntKind.i64.wrap (IntKind.i64.wrap ((a.2.1:Int)*(r.2:Int))+IntKind.i64.wrap (List.getD (α:=Int) a.1 v.toNat 0*r.1))=_∧_
 rw [e1,e2]
 generalize (a.2.1:Int)*r.2=p at*
 generalize List.getD (α:=Int) a.1 v.toNat 0*r.1=q at*
 exact ⟨qaq (by omega) (by omega),by unfold inI;omega⟩
theorem q92 (a:Val qa) (v:Int) (r:Val Y28): ∃N,qxM N a v r=some ((qak a v r).1,(qak a v r).2,()):=⟨List.length (α:=Int) a.1+1,by
 rw [qxM]
 unfold qak
 cases ha:qG a with
 | false=>rfl
 | true=>
   cases hr:qi r with
   | false=>rfl
   | true=>
     simp only [Bool.not_true,cond_false,Bool.and_self,Bool.true_and]
     by_cases h1:v<0
     ·rw [qk h1,decide_eq_false (by omega)];rfl
     ·rw [qj h1]
      by_cases h2:(List.length (α:=Int) a.1:Int)≤v
      ·rw [qk h2,decide_eq_false (by omega)];rfl
      ·have hv:0≤v∧v<(List.length (α:=Int) a.1:Int):=by omega
       obtain ⟨h4,_,hx⟩:=qbv ha
       obtain ⟨r1,r2⟩:=qbe hr
       have r2': -400000000≤(r.2:Int)∧ @LE.le Int _ r.2 400000000:=⟨Int.le_trans (by decide) r2.1,r2.2⟩
       obtain ⟨ec,ic⟩:=q2b ha hr hv
       rw [qj h2,decide_eq_true hv,qd (qiq (by omega)),Int.toNat_natCast,List.length_replicate]
       refine (zl5 _ v a.1 a.2.1 a.2.2 r.1 r.2 0 false _ (by omega) hx r2' _ (Nat.lt_succ_self _)).trans ?_
       have hl:(List.map (α:=Int) (fun x=>x*(r.2:Int)) a.1).length=List.length (α:=Int) a.1:=List.length_map ..
       rw [ec,qd (by rw [hl];exact hv),qd (by rw [hl];omega),qd hv]
       exact qd (show qap (qbY a.1 v.toNat r.2) _ _ from ⟨by rw [qp0];omega,ic,qY6 v.toNat hx r2'⟩)⟩
theorem q7d:Sound Tryz.prog 226 qfh:=qx (tt:=tt) (Γ:=qi6) hT (qg qhY (qg qQU (qg qxq qu))) hm (fn:=Tryz.f226) Tryz.func226 (c:=Tryz.f226.body.getD .skip) (by kernel_rfl) (by kernel_rfl) fun x hx=>by
 obtain ⟨N,h⟩:=q92 x.1 x.2.1 x.2.2.1
 exact ⟨qdB N,zl7,qy _,ziJ N,(zgi N x.1 x.2.1 x.2.2.1).trans h⟩
theorem zgq (a:Val qa) (v:Int) (r:Val Y28) (_:qBE a v r): ∃N,qxO N a v r=some ((qak a v r).1,(qak a v r).2,()):=⟨List.length (α:=Int) a.1+1,by
 rw [qxO]
 unfold qak
 cases ha:qG a with
 | false=>rfl
 | true=>
   cases hr:qi r with
   | false=>rfl
   | true=>
     simp only [Bool.not_true,cond_false,Bool.and_self,Bool.true_and]
     obtain ⟨h4,_,hx⟩:=qbv ha
     have ew:IntKind.i64.wrap ((List.length (α:=Int) a.1:Int) - 1)=(List.length (α:=Int) a.1:Int) - 1:=qaq (by omega) (by omega)
     rw [ew]
     by_cases hv:0≤v∧v<(List.length (α:=Int) a.1:Int)
     ·obtain ⟨r1,r2⟩:=qbe hr
      have r2': -400000000≤(r.2:Int)∧ @LE.le Int _ r.2 400000000:=⟨Int.le_trans (by decide) r2.1,r2.2⟩
      obtain ⟨ec,ic⟩:=q2b ha hr hv
      rw [qhq ⟨hv.1,by omega⟩,decide_eq_true hv]
      simp only [Bool.not_true,cond_false,cond_true]
      refine (qQr _ v a.1 a.2.1 a.2.2 r.1 r.2 0 false _ hv.1 (by omega) hx r2' (List.length (α:=Int) a.1) 0 (by omega) _ (Nat.lt_succ_self _) [] rfl).trans ?_
      rw [List.nil_append,List.drop_zero,ec,qd hv]
      exact qd (show qap (qbY a.1 v.toNat r.2) _ _ from ⟨by rw [qp0];omega,ic,qY6 v.toNat hx r2'⟩)
     ·rw [qiU (by omega),decide_eq_false hv];rfl⟩
theorem zgc:Sound Tryz.prog 223 qd9:=qx (tt:=tt) (Γ:=qgK) hT (qg qiS (qg qh1 (qg qzu (qg qEg qu)))) hm (fn:=Tryz.f223) Tryz.func223 (c:=Tryz.f223.body.getD .skip) (by kernel_rfl) (by kernel_rfl) fun x hx=>by
 obtain ⟨N,h⟩:=zgq x.1 x.2.1 x.2.2.1 hx
 exact ⟨qdp N,zkK,qy _,zbE N,(zqN N x.1 x.2.1 x.2.2.1).trans h⟩
end Go.T
