/- Normal cells: what the program's normalOf computes. -/
import Derived.Test.YthefcjjgchekiaaGreatB3
set_option linter.unusedSimpArgs false
set_option linter.unusedVariables false
namespace Go.T
open Go Go.Proofs
set_option maxHeartbeats 4000000
set_option maxRecDepth 100000
def qaB (a:Val qa):Bool:= !q8 a&&(decide ((0:Int)<a.2.1)||(decide ((a.2.1:Int)=0)&&a.2.2))
def qO (d:Int) (l:List (Val qa)):Val Y33:=bif l.any qaB then qbJ d else (d,qdr (l.filter q8))
def okL (d:Int) (l:List (Val qa)):Prop:=(0≤d∧d≤4)∧l.length≤1048576∧ ∀a∈l,okA a∧(List.length (α:=Int) a.1:Int)=d
def qbR (d:Int) (l:List (Val qa)):Prop:=okL d l
theorem qHv {ρ:Type} {r:Option ρ} {k:List (Val qa)→Option ρ}: ∀(xs:List (Val qa)) (i:Nat) (s:List (Val qa)),s.length+xs.length≤1048576→
 qat (fun _ (x:Val qa) (s:List (Val qa)) K=>bif qaB x then r else bif q8 x then chk (s.length+[x].length≤1048576) (K (s++[x]))else K s) i xs s k=bif xs.any qaB then r else k (s++xs.filter q8)
 | [],_,s,_=>by rw [qat];simp
 | x::xs,i,s,h=>by
   simp only [List.length_cons]at h
   rw [qat]
   cases hb:qaB x with
   | true=>simp [hb]
   | false=>
     cases hv:q8 x with
     | true=>simp only [cond_false,cond_true];rw [qd (by simp;omega),qHv xs _ _ (by simp;omega)];simp [hb,hv]
     | false=>simp only [cond_false];rw [qHv xs _ _ (by omega)];simp [hb,hv]
theorem qiw {a b:Val qa} {d:Int} (ha:okA a∧(List.length (α:=Int) a.1:Int)=d) (hb:okA b∧(List.length (α:=Int) b.1:Int)=d):qmb a b=qaY (atm a) (atm b):=by
 have h1:qG a=true:=ha.1
 have h2:qG b=true:=hb.1
 have h3:List.length (α:=Int) a.1=List.length (α:=Int) b.1:=by have:=ha.2;have:=hb.2;omega
 simp [qmb,h1,h2,h3]
theorem zha {d:Int} {l:List (Val qa)} (hl:l.length≤1048576) (h: ∀a∈l,okA a∧(List.length (α:=Int) a.1:Int)=d) (hv: ∀a∈l,q8 a=true):qIV (fun _ _=>True) qmb qaC l:=by
 refine ⟨hl,fun _ _ _ _=>trivial,fun x hx=> ?_,fun x hx y hy z hz h1 h2=> ?_,fun x hx y hy z hz h1 h2=> ?_,fun ys hp ho=> ?_⟩
 ·rw [qiw (h x hx) (h x hx),qb0.self];omega
 ·rw [qiw (h x hx) (h y hy)]at h1;rw [qiw (h y hy) (h z hz)]at h2;rw [qiw (h x hx) (h z hz)]
  exact qb0.lt_le h1 (Int.le_of_lt h2)
 ·rw [qiw (h x hx) (h y hy)]at h1;rw [qiw (h y hy) (h z hz)]at h2;rw [qiw (h x hx) (h z hz)]
  have a1:=qb0.anti (atm x) (atm y);have a2:=qb0.anti (atm y) (atm z);have a3:=qb0.anti (atm x) (atm z)
  have:=qb0.tr (atm z) (atm y) (atm x) (by omega) (by omega)
  omega
 ·refine zat (fun a ha=>q2O (h a ha).1 (hv a ha)) hp (ho.imp_of_mem fun {a b} ha hb hab=> ?_)
  have ha':=hp.mem_iff.1 ha
  have hb':=hp.mem_iff.1 hb
  rwa [qiw (h b hb') (h a ha')]at hab
theorem qJA {ρ α:Type} {p:Nat→Bool} {k:List α→Option ρ} {d:α}: ∀(m i:Nat) (hs:List α) (s:List α),hs.length - i=m→i≤hs.length→s.length+m≤1048576→
 qat (fun j (x:α) (s:List α) K=>bif p j then K s else chk (s.length+[x].length≤1048576) (K (s++[x]))) i (hs.drop i) s k=k (s++((List.range' i m).filter fun i=> !p i).map fun i=>hs.getD i d)
 | 0,i,hs,s,h,hi,_=>by rw [List.drop_eq_nil_of_le (by omega),qat];simp
 | m+1,i,hs,s,h,hi,hs'=>by
   have hlt:i<hs.length:=by omega
   rw [qbo hlt,qat,List.range'_succ]
   cases hp:p i with
   | true=>simp only [cond_true];rw [qJA (d:=d) m (i+1) hs s (by omega) (by omega) (by omega)];simp [hp]
   | false=>
     simp only [cond_false]
     rw [qd (by simp;omega),qJA (d:=d) m (i+1) hs _ (by omega) (by omega) (by simp;omega)]
     simp [hp,List.getD,hlt]
def qcP:G:={ps:=[i3,i31],rs:=[i33],dp:=true,pre:=fun x=>qbR x.1 x.2.1,fn:=fun x=>(qO x.1 x.2.1,())}
theorem q8H (N:Nat) (d:Int) (l:List (Val qa)) (K:List (Val qa)→Option (qc [i33])) (h:okL d l) (n:Nat) (hn:l.length<n) (s:List (Val qa)):qfp N d l l.length 0 K n 0 s=qat (fun _ (x:Val qa) (s:List (Val qa)) K=>bif qaB x then some ((qbJ d,()))else bif q8 x then chk (s.length+[x].length≤1048576) (K (s++[x]))else K s) 0 l s K:=
 qaP (xs:=l) (F:=fun n i s=>qfp N d l l.length 0 K n i s) h.2.1 (fun n i s hi=>by
  obtain ⟨ha,hlen⟩:=h.2.2 _ (List.getElem_mem hi)
  have h4:=(qbv ha).1
  have hd:=h.1
  rw [qfp,qk (by omega),qd (by omega),qF hi,qd (show qmV _ from ha)]
  rw [qd (show qhm d from ⟨hd.1,by omega⟩),qd (show qbu _ from by unfold qbu;omega)]
  unfold qaB
  cases hv:q8 l[i]with
  | true=>simp only [Bool.not_true,cond_false,Bool.false_and,cond_true];try rfl
  | false=>
    by_cases c1:(0:Int)<l[i].2.1
    ·simp only [Bool.not_false,cond_true,c1,decide_true,Bool.true_or,Bool.and_self];try rfl
    ·by_cases c2:(l[i].2.1:Int)=0
     ·cases hs:l[i].2.2<;>simp only [Bool.not_false,cond_true,c1,c2,decide_true,decide_false,Bool.false_or,Bool.and_true,Bool.and_false,cond_false,Bool.true_and]<;>(try rfl)
     ·simp only [Bool.not_false,cond_true,c1,c2,decide_false,Bool.false_or,Bool.and_false,Bool.false_and,cond_false]) (fun n i s hi=>by rw [qfp,qj (by omega)]) n s hn
theorem ze8 (N:Nat) (d:Int) (S:List (Val qa)) (hs:List (Val (hd qa))) (K:List (Val (hd qa))→Option (qc [i33])) (hp:qeg qa hs S) (hSl:S.length≤1048576) (hSm: ∀a∈S,okA a∧(List.length (α:=Int) a.1:Int)=d) (n:Nat) (hn:hs.length<n) (s:List (Val (hd qa))):qel N hs.length hs S 0 hs d K n 0 s=qat (fun j (x:Val (hd qa)) (s:List (Val (hd qa))) K=>bif qgf S j then K s else chk (s.length+[x].length≤1048576) (K (s++[x]))) 0 hs s K:=
 have hl2:hs.length=S.length:=hp.1
 qaP (xs:=hs) (F:=fun n i s=>qel N hs.length hs S 0 hs d K n i s) (by omega) (fun n i s hi=>by
  have h1:i<S.length:=by omega
  have e1:(i:Int).toNat=i:=rfl
  rw [qel,qk (by omega),qd (by omega),e1,qd hi]
  rw [qoi hi (by omega)]
  have hg: ∀j,j<S.length→lk qa hs S (hs.getD j (qb (hd qa)))=S.getD j (qb qa):=fun j hj=>ziO hp hj
  have hm: ∀j,j<hs.length→hs.getD j (qb (hd qa))∈hs:=fun j hj=>by rw [qtG hj];exact List.getElem_mem _
  have hv: ∀j,j<S.length→S.getD j (qb qa)∈S:=fun j hj=>by rw [qtG hj];exact List.getElem_mem _
  by_cases h2:i+1<hs.length
  ·have e2:((i+1:Nat):Int).toNat=i+1:=rfl
   have m1:=hSm _ (hv i h1)
   have m2:=hSm _ (hv (i+1) (by omega))
   rw [qk (by omega),e2,qd (by omega),qd h2,hg i h1,hg (i+1) (by omega),qd ⟨hp.2.1,⟨hm i hi,hm (i+1) h2⟩,m1.1,m2.1,by have:=m1.2;have:=m2.2;omega⟩]
   have e3:qgf S i=decide ((qbw (S.getD i (qb qa)) (S.getD (i+1) (qb qa)))=0):=by
        unfold qgf
        rw [show decide (i+1<S.length)=true by simp;omega,Bool.true_and]
        rfl
   rw [e3,qtG hi]
  ·rw [qj (by omega)]
   have e3:qgf S i=false:=by
        unfold qgf
        rw [show decide (i+1<S.length)=false by simp;omega,Bool.false_and]
   rw [e3,qtG hi]
   rfl) (fun n i s hi=>by rw [qel,qj (by omega)]) n s hn
theorem q60 (d:Int) (l:List (Val qa)) (h:qbR d l): ∃N,qxS N d l=some (qO d l,()):=⟨l.length+1,by
 have h0:=h
 obtain ⟨hdd,hl,hok⟩:=h
 rw [qxS,q8H _ _ _ _ h0 _ (Nat.lt_succ_self _)]
 refine (qHv l 0 [] (by simpa using hl)).trans ?_
 rw [qO]
 cases hb:l.any qaB with
 | true=>rfl
 | false=>
   simp only [cond_false,List.nil_append]
   generalize hK:l.filter q8=K
   have hKl:K.length≤l.length:=by rw [←hK];exact List.length_filter_le _ _
   have hKm: ∀a∈K,(okA a∧(List.length (α:=Int) a.1:Int)=d)∧q8 a=true:=fun a ha=>by
    rw [←hK]at ha
    exact ⟨hok a (List.mem_filter.1 ha).1,(List.mem_filter.1 ha).2⟩
   rw [qd (show qfQ.pre K from zha (by omega) (fun a ha=>(hKm a ha).1) fun a ha=>(hKm a ha).2)]
   generalize hS:qaC K=S
   have hperm:S.Perm K:=by rw [←hS];exact qB1 K
   have hSm: ∀a∈S,okA a∧(List.length (α:=Int) a.1:Int)=d:=fun a ha=>(hKm a (hperm.mem_iff.1 ha)).1
   have hSl:S.length=K.length:=hperm.length_eq
   obtain ⟨hs0,g0⟩:=q2i qa S
   refine qzp ⟨([],hs0),g0⟩ fun p hp=> ?_
   obtain ⟨F,hs⟩:=p
   have hp:qeg qa hs S:=hp
   have hl2:hs.length=S.length:=hp.1
   dsimp only
   rw [ze8 _ d S hs _ hp (by omega) hSm _ (by omega)]
   refine (qJA (d:=qb (hd qa)) hs.length 0 hs [] (by omega) (by omega) (by simp;omega)).trans ?_
   have e:(List.range' 0 hs.length).filter (fun i=> !qgf S i)=qcv S:=by
    rw [hl2];unfold qcv qi8;rw [List.range_eq_range']
   rw [e,List.nil_append,qd ⟨rfl,zd8 S,fun i hi=>qCH hi,hp.2.1,hl2⟩]
   have:=zjv (xs:=K) fun a ha=>q2O (hKm a ha).1.1 (hKm a ha).2
   rw [show qkX K=S from hS]at this
   exact congrArg (fun x=>some ((d,x),())) this⟩
theorem qTI:Sound Tryz.prog 230 qcP:=qx (tt:=tt) (Γ:=qeh) hT (qg zhb (qg qOQ (qg qY1 (qg q0V qu)))) hm (fn:=Tryz.f230) Tryz.func230 (c:=Tryz.f230.body.getD .skip) (by kernel_rfl) (by kernel_rfl) fun x hx=>by
 obtain ⟨N,h⟩:=q60 x.1 x.2.1 hx
 exact ⟨qb3 N,zdN,zf1 (zfe q8g q83),zin N,(q9E N x.1 x.2.1).trans h⟩
end Go.T
