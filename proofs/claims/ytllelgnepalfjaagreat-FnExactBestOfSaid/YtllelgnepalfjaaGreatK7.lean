import Derived.Test.YtllelgnepalfjaaGreatE46
import Derived.Test.YtllelgnepalfjaaGreatE39
import Derived.Test.YtllelgnepalfjaaGreatB18
set_option linter.unusedSimpArgs false
set_option linter.unusedVariables false
namespace Go.T
open Go Go.Proofs
set_option maxHeartbeats 4000000
set_option maxRecDepth 100000
theorem S2 {ρ:Type} {F:Nat->Int->Zb->Option ρ} {K:Zb->Option ρ} {x y:Zb} {p q:Int} (h:x.length=y.length) (e:x.length<=1000)
 (b: ∀(n i:Nat) (s:Zb) (h1:i<x.length) (h2:i<y.length),F (n+1) (i:Int) s=chk (s.length+[(p*(x[i]:Int)+q*(y[i]:Int):Int)].length<=1048576) (F n (IntKind.i64.wrap ((i:Int)+1)) (s++[(p*(x[i]:Int)+q*(y[i]:Int):Int)])))
 (a: ∀(n i:Nat) (s:Zb),x.length<=i->F (n+1) (i:Int) s=K s) (n:Nat) (g:x.length<n):F n 0 []=K (qu p q x y):=by
 have d:(List.zip x y).length=x.length:=by rw [List.length_zip];omega
 refine (bp (xs:=List.zip x y) (F:=F) (step:=fun _ (z:Zc×Zc) (s:Zb) K=>chk (s.length+[(p*(z.1:Int)+q*(z.2:Int):Int)].length<=1048576) (K (s++[(p*(z.1:Int)+q*(z.2:Int):Int)]))) (k:=K) (by omega) (fun n i s c=> ?_) (fun n i s c=>a n i s (by omega)) n [] (by omega)).trans ((iG (f:=fun (z:Zc×Zc)=>(p*(z.1:Int)+q*(z.2:Int):Int)) _ 0 [] (by rw [d];simp;omega)).trans ?_)
 ·rw [b n i s (by omega) (by omega),List.getElem_zip]
 ·rfl
theorem Hb {ρ:Type} {g:Nat} {F:Nat->Bool->Int->Zb->Option ρ} {K:Bool->Zb->Option ρ} {m:Nat} (hm:m<=1000)
 (d: ∀(n i:Nat) (b:Bool) (s:Zb) (h:i<s.length),s.length=m->inI s[i]->F (n+1) b (i:Int) s=F n (b&&qq ((s[i]:Int).tdiv (g:Int))) (IntKind.i64.wrap ((i:Int)+1)) (s.set i ((s[i]:Int).tdiv (g:Int))))
 (c: ∀(n i:Nat) (b:Bool) (s:Zb),m<=i->s.length=m->F (n+1) b (i:Int) s=K b s): ∀(a pre:Zb) (b:Bool),pre.length+a.length=m->(∀z∈a,inI z)-> ∀n,a.length<n->
   F n b (pre.length:Int) (pre++a)=K (b&&(List.map (α:=Int) (fun x=>x.tdiv (g:Int)) a).all qq) (pre++List.map (α:=Int) (fun x=>x.tdiv (g:Int)) a)
 | [],pre,b,h,_,n+1,_=>by
   simp only [List.length_nil,Nat.add_zero]at h
   rw [c n pre.length b _ (by omega) (by simpa using h)]
   simp
 | y::a,pre,b,h,f,n+1,o=>by
   have l:pre.length<(pre++y::a).length:=by simp
   have e:(pre++y::a)[pre.length]=y:=by simp
   have k:(pre++y::a).length=m:=by rw [List.length_append];exact h
   have h1:pre.length<m:=by simp only [List.length_cons]at h;omega
   rw [d n pre.length b _ l k (by rw [e];exact f y (by simp)),e,mG,b3 h1 (by omega)]
   have j:=Hb hm d c a (pre++[((y:Int).tdiv (g:Int):Int)]) (b&&qq ((y:Int).tdiv (g:Int))) (by simp only [List.length_append,List.length_cons,List.length_nil]at h ⊢;omega) (fun u hu=>f u (by simp [hu])) n (by simp only [List.length_cons]at o;omega)
   rw [show (((pre++[((y:Int).tdiv (g:Int):Int)]).length:Nat):Int)=((pre.length+1:Nat):Int) by simp,List.append_assoc]at j
   refine (show _=_ from j).trans ?_
   simp [Bool.and_assoc]
theorem qQr (N:Nat) (p q:Int) (c:Zb) (a:Int) (a_s:Bool) (d e:Zb) (b:Int) (bs:Bool) (f:Zb) (g:Int) (h:Bool) (K:Int->Bool->ZO [bE,i4]) (n:Nat):
 pO N p q c a a_s d e b bs f g h K n=K (IntKind.i64.wrap (IntKind.i64.wrap (p*a)+IntKind.i64.wrap (q*b))) (a_s||bs):=by
 rw [pO]
 cases a_s<;>rfl
theorem qYt (N:Nat) {p q:Int} (l:0<=p/\p<=400000000) (m:0<=q/\q<=400000000) {x y:Zb} (r:x.length=y.length) (v:x.length<=100) (o: ∀z∈x,qq z=true) (t: ∀z∈y,qq z=true) (a:Int) (c:Bool) (d:Zb) (e:Int) (f:Bool) (g:Zb) (h:Int) (u8:Bool) (j:Int) (b:Bool) (K:Zb->ZO [bE,i4]) (n:Nat) (k:x.length<n):
 ju N p q x a c d y e f g h u8 j b K n 0 []=K (qu p q x y):=
 S2 (F:=fun n i s=>ju N p q x a c d y e f g h u8 j b K n i s) r (by omega) (fun n i s h1 h2=>by
  rw [ju,qg (by omega),qc (by omega),qc (by omega),qB h1,qB h2,(iP l m (cH (o _ (List.getElem_mem h1))) (cH (t _ (List.getElem_mem h2)))).1]) (fun n i s u=>by
  rw [ju,qf (by omega)]) n k
theorem qUY (N:Nat) {p q:Int} (m:0<=p/\p<=400000000) (o:0<=q/\q<=400000000) {x y:Zb} (t:x.length=y.length) (w:x.length<=100) (r: ∀z∈x,qq z=true) (u: ∀z∈y,qq z=true) (a:Zb) (b:Int) (e:Bool) (f:Zb) (g:Int) (h:Bool) (j:Int) (u8:Bool) (k:Int) (c:Bool) (d:Zb) (K:Zb->ZO [bE,i4]) (n:Nat) (l:x.length<n):
 jv N p q a b e x f g h y j u8 k c d K n 0 []=K (qu p q x y):=
 S2 (F:=fun n i s=>jv N p q a b e x f g h y j u8 k c d K n i s) t (by omega) (fun n i s h1 h2=>by
  rw [jv,qg (by omega),qc (by omega),qc (by omega),qB h1,qB h2,(iP m o (cH (r _ (List.getElem_mem h1))) (cH (u _ (List.getElem_mem h2)))).1]) (fun n i s v=>by
  rw [jv,qf (by omega)]) n l
theorem q3d (N:Nat) {g:Nat} (u:0<g) (d:Int) (f:Bool) (j:Int) (k:Bool) (l:Zb) (K:Bool->Zb->ZO [bE,i4]) (a:Zb) (b:Bool) (q:a.length<=1000) (t: ∀z∈a,inI z) (n:Nat) (r:a.length<n):
 hV N (g:Int) d f j k l K n b 0 a=K (b&&(List.map (α:=Int) (fun x=>x.tdiv (g:Int)) a).all qq) (List.map (α:=Int) (fun x=>x.tdiv (g:Int)) a):=by
 have o:(g:Int)≠0:=by omega
 refine (Hb (F:=fun n b i s=>hV N (g:Int) d f j k l K n b i s) (K:=K) (m:=a.length) (g:=g) q (fun n i b s h hs p=> ?_) (fun n i b s h hs=> ?_) a [] b (by simp) t n r)
 ·have c: ∀z:Zc,(s.set i z).length=s.length:=fun z=>List.length_set
  have h2:i<(s.set i (s[i].tdiv (g:Int))).length:=by rw [c];exact h
  rw [hV,qg (by omega),qc (by omega),qc (by omega),qc o,qc (by omega),qc (by omega),qB h,di p,Int.toNat_natCast,qc (by rw [c];omega),qc (by rw [c];omega)]
  have e:(s.set i ((s[i]:Int).tdiv (g:Int))).getD i (qa Zd)=(s[i]:Int).tdiv (g:Int):=by simp [List.getD,h]
  cases b with
  | false=>rfl
  | true=>rw [cond_true,e,Bool.true_and]
 ·rw [hV,qf (by omega)]
theorem q3a (N:Nat) {g:Nat} (u:0<g) (d:Int) (f:Bool) (j:Int) (k:Bool) (l:Zb) (K:Bool->Zb->ZO [bE,i4]) (a:Zb) (b:Bool) (q:a.length<=1000) (t: ∀z∈a,inI z) (n:Nat) (r:a.length<n):
 gK N (g:Int) d f j k l K n b 0 a=K (b&&(List.map (α:=Int) (fun x=>x.tdiv (g:Int)) a).all qq) (List.map (α:=Int) (fun x=>x.tdiv (g:Int)) a):=by
 have o:(g:Int)≠0:=by omega
 refine (Hb (F:=fun n b i s=>gK N (g:Int) d f j k l K n b i s) (K:=K) (m:=a.length) (g:=g) q (fun n i b s h hs p=> ?_) (fun n i b s h hs=> ?_) a [] b (by simp) t n r)
 ·have c: ∀z:Zc,(s.set i z).length=s.length:=fun z=>List.length_set
  rw [gK,qg (by omega),qc (by omega),qc (by omega),qc o,qc (by omega),qc (by omega),qB h,di p,Int.toNat_natCast,qc (by rw [c];omega),qc (by rw [c];omega)]
  have e:(s.set i ((s[i]:Int).tdiv (g:Int))).getD i (qa Zd)=(s[i]:Int).tdiv (g:Int):=by simp [List.getD,h]
  cases b with
  | false=>rfl
  | true=>rw [cond_true,e,Bool.true_and]
 ·rw [gK,qf (by omega)]
theorem e73 (a:MxV) (p:Int) (b:MxV) (q:Int) (h:xb a p b q): ∃N,m73 N a p b q=some ((jn a p b q).1,(jn a p b q).2,()):=⟨102,by
 obtain ⟨⟨n,o⟩,⟨⟨r,s⟩,B,has,u⟩,⟨⟨_,_⟩,C,v,w⟩,l,m⟩:=h
 obtain ⟨c,i,a_s,d⟩:=a
 obtain ⟨e,j,bs,f⟩:=b
 change List (Zc)at c d e f
 change Int at i j
 change Bool at a_s bs
 have n:c.length=e.length:=n
 have o:d.length=f.length:=o
 have r:c.length<=100:=r
 have s:d.length<=100:=s
 have hk:=iP l m (cH B) (cH C)
 have E:IntKind.i64.wrap (IntKind.i64.wrap (p*i)+IntKind.i64.wrap (q*j))=p*i+q*j:=hk.1
 have y:inI (p*i+q*j):=hk.2
 have hs:=uj (xs:=c) (ys:=e) l m (fun z k=>cH (has z k)) fun z k=>cH (v z k)
 have A:=uj (xs:=d) (ys:=f) l m (fun z k=>cH (u z k)) fun z k=>cH (w z k)
 have ls:=dz (p:=p) (q:=q) n
 have lt:=dz (p:=p) (q:=q) o
 have H:List.length (α:=Zc) (qu p q c e)<=100:=by have:(qu p q c e).length<=100:=by omega
                                                                exact this
 have I:List.length (α:=Zc) (qu p q d f)<=100:=by have:(qu p q d f).length<=100:=by omega
                                                                    exact this
 rw [m73,qQr]
 dsimp only
 rw [E,qYt _ l m n r has v _ _ _ _ _ _ _ _ _ _ _ _ (by omega),qUY _ l m o s u w _ _ _ _ _ _ _ _ _ _ _ _ _ (by omega)]
 have F:fb (qu p q c e++qu p q d f:Zb) (p*i+q*j):=⟨by rw [List.length_append];omega,y,fun x G=>(List.mem_append.1 G).elim (hs x) (A x)⟩
 rw [List.nil_append,qc (by simp only [List.length_nil];omega),qc (by omega),qc F]
 have D:max (1:Int) (b6 (qu p q c e++qu p q d f:Zb) (p*i+q*j))=((max 1 (gL (p*i+q*j).natAbs (qu p q c e++qu p q d f)):Nat):Int):=by unfold b6;omega
 rw [D]
 show _=some ((jnG (qu p q c e) (p*i+q*j) (a_s||bs) (qu p q d f) (max 1 (gL (p*i+q*j).natAbs (qu p q c e++qu p q d f)))).1,(jnG (qu p q c e) (p*i+q*j) (a_s||bs) (qu p q d f) (max 1 (gL (p*i+q*j).natAbs (qu p q c e++qu p q d f)))).2,())
 have t:0<max 1 (gL (p*i+q*j).natAbs (qu p q c e++qu p q d f)):=by omega
 generalize max 1 (gL (p*i+q*j).natAbs (qu p q c e++qu p q d f))=g at t ⊢
 rw [qc (by omega),q3d _ t _ _ _ _ _ _ _ _ (by omega) hs _ (by omega),q3a _ t _ _ _ _ _ _ _ _ (by omega) A _ (by omega),di y]
 rfl⟩
theorem s73:Sound Tryz.prog 73 g73:=qo (tt:=tt) (Γ:=Γ73) hT (qe s63 (qe s98 ql)) hm (fn:=Tryz.f73) Tryz.func73 (c:=Tryz.f73.body.getD .skip) (by kernel_rfl) (by kernel_rfl) fun x a=>by
 obtain ⟨N,h⟩:=e73 x.1 x.2.1 x.2.2.1 x.2.2.2.1 a
 exact ⟨T73 N,p73,qp _,qNX N,(qWy N x.1 x.2.1 x.2.2.1 x.2.2.2.1).trans h⟩
theorem qZl {d:Nat} {co:List Int} (a:co.length=d) (k:Int) (m i:Nat):((co++(0:Int)::List.replicate m (0:Int)).set d k).set (d+1+i) 1=co++k::dP m i:=by
 subst a
 rw [mG,List.set_append,if_neg (by omega),show co.length+1+i - co.length=i+1 by omega,List.set_cons_succ]
 rfl
theorem qS9 {d:Nat} {co:List Int} (a:co.length=d) (m:Nat):co++List.drop co.length (List.replicate (d+1+m) (0:Int))=co++(0:Int)::List.replicate m (0:Int):=by
 subst a
 rw [List.drop_replicate,show co.length+1+m - co.length=m+1 by omega,List.replicate_succ]
theorem Hc {ρ α β:Type} {f:Nat->α->β} {k:List β->Option ρ}: ∀(xs:List α) (i:Nat) (s:List β),s.length+xs.length<=1048576->q5 (fun i x (s:List β) K=>chk (s.length+[f i x].length<=1048576) (K (s++[f i x]))) i xs s k=k (s++xs.mapIdx fun j x=>f (i+j) x)
 | [],i,s,_=>by rw [q5];simp
 | x::xs,i,s,h=>by
   simp only [List.length_cons]at h
   rw [q5]
   dsimp only
   have e:(fun (j:Nat) (x:α)=>f (i+1+j) x)=fun j x=>f (i+(j+1)) x:=by funext j x;rw [Nat.add_assoc,Nat.add_comm 1 j]
   rw [qc (by rw [List.length_singleton];omega),Hc xs (i+1) _ (by rw [List.length_append,List.length_singleton];omega),List.mapIdx_cons,e]
   simp
theorem S3 {α β b:Type} {g:β->b}: ∀(l:List α) (f:Nat->α->β),(l.mapIdx f).map g=l.mapIdx fun i a=>g (f i a)
 | [],_=>rfl
 | x::l,f=>by rw [List.mapIdx_cons,List.map_cons,List.mapIdx_cons,S3 l]
theorem Hd {ρ α:Type} {p:α->Bool} {f:α->ρ} {k:Unit->Option ρ}: ∀(xs:List α) (i:Nat),q5 (fun _ x (_:Unit) K=>bif p x then some (f x)else K ()) i xs () k=match xs.find? p with
 | some x=>some (f x)
 | none=>k ()
 | [],_=>rfl
 | x::xs,i=>by
   rw [q5,List.find?_cons]
   dsimp only
   cases p x with
   | true=>rfl
   | false=>rw [cond_false];exact Hd xs (i+1)
abbrev pR:ZO [i25,i4]:=some (([]:Zb),false,())
theorem qXv (N:Nat) {b:Nat} (hd:b<=4) (A:Ze) (q:A.length<=16) (e: ∀a∈A,qy a=true/\(List.length (α:=Zc) a.1:Int)=(b:Int)) (K:Za->ZO [i25,i4]) (n:Nat) (j:A.length<n):
 js N A A.length (b:Int) A K n 0 []=K ((cU A).map enc):=by
 refine (bp (xs:=A) (F:=fun n i s=>js N A A.length (b:Int) A K n i s) (step:=fun i a (s:Za) K=>chk (s.length+[(enc (mx0 A i a):Zb)].length<=1048576) (K (s++[(enc (mx0 A i a):Zb)]))) (k:=K) (by omega) (fun n i s d=> ?_) (fun n i s d=> ?_) n [] j).trans ((Hc (f:=fun i a=>(enc (mx0 A i a):Zb)) A 0 [] (by simp only [List.length_nil];omega)).trans ?_)
 ·have p:=(e _ (List.getElem_mem d)).2
  have c:List.length (α:=Zc) A[i].1=b:=by omega
  have m:IntKind.i64.wrap (IntKind.i64.wrap ((b:Int)+1)+(A.length:Int))=((b+1+A.length:Nat):Int):=by
   rw [bn (n:=(b:Int)+1) (by omega) (by omega),bn (by omega) (by omega)];omega
  have o:IntKind.i64.wrap (IntKind.i64.wrap ((b:Int)+1)+(i:Int))=((b+1+i:Nat):Int):=by
   rw [bn (n:=(b:Int)+1) (by omega) (by omega),bn (by omega) (by omega)];omega
  have l:(A[i].1++List.drop (List.length (α:=Zc) A[i].1) (List.replicate (b+1+A.length) (qa Zd)):Zb)=A[i].1++(0:Int)::List.replicate A.length (0:Int):=qS9 c A.length
  have g: ∀z:Zc,List.length (α:=Zc) (List.set (A[i].1++(0:Int)::List.replicate A.length (0:Int)) b z)=b+1+A.length:=fun z=>by
   rw [List.length_set,List.length_append,List.length_cons,List.length_replicate,c];omega
  have h:List.length (α:=Zc) (A[i].1++(0:Int)::List.replicate A.length (0:Int))=b+1+A.length:=by
   rw [List.length_append,List.length_cons,List.length_replicate,c];omega
  have he:(List.set (List.set (A[i].1++(0:Int)::List.replicate A.length (0:Int)) b A[i].2.1) (b+1+i) 1:Zb)=enc (mx0 A i A[i]):=qZl c A[i].2.1 A.length i
  rw [js,qg (by omega),qc (by omega),m,o,qB d]
  simp only [Int.toNat_natCast]
  rw [l,h,g,he,List.length_replicate,c]
  rw [qc (by omega),qc (by omega),qc (by omega),qc (by omega),qc (by omega),qc (by omega)]
 ·rw [js,qf (by omega)]
 ·rw [List.nil_append]
  unfold cU
  rw [S3]
  simp only [Nat.zero_add]
theorem S4 (N:Nat) (d:Int) (A:Ze) {w:Nat} (hw:w<=100) (K:Za->ZO [i25,i4]): ∀(k:Nat) (l:Za),da w l->k<=w-> ∀n,k<n->
 jt N d A K n l ((k:Int) - 1)=match fK k l with
  | some l'=>K l'
  | none=>pR
 | 0,l,_,_,n+1,_=>by
   rw [jt,qf (by omega)]
   rfl
 | k+1,l,a,hk,n+1,f=>by
   have e:=fun l' b=>S4 N d A hw K k l' b (by omega) n (by omega)
   rw [show ((k+1:Nat):Int) - 1=(k:Int) by omega,jt,qg (by omega),qc (show wZ l (k:Int) from ⟨w,hw,a,by omega,by omega⟩),fK,jo,bn (n:=(k:Int) - 1) (by omega) (by omega)]
   cases c:iW (k:Int) l with
   | none=>rfl
   | some l'=>exact e l' (Sc a c)
theorem qXQ (N:Nat) {a:Nat} (hd:a<=4) (A:Ze) (l:A.length<=16) {w:Nat} (hw:a+1<=w/\w<=100) (K:Unit->ZO [i25,i4]) (L:Za) (d:da w L) (n:Nat) (e:L.length<n):
 hS N L L.length (a:Int) A K n 0=match L.find? fun x=>bP ((a:Int),A) (x.drop (a+1))with
  | some x=>some (x.drop (a+1),true,())
  | none=>K ():=by
 have j:=d.1
 refine (bp (xs:=L) (F:=fun n i (_:Unit)=>hS N L L.length (a:Int) A K n i) (step:=fun _ x _ K=>bif bP ((a:Int),A) (x.drop (a+1))then some ((x.drop (a+1),true,()):qb [i25,i4])else K ()) (k:=K) (by omega) (fun n i s b=> ?_) (fun n i s b=> ?_) n () e).trans ((Hd (p:=fun x=>bP ((a:Int),A) (List.drop (a+1) x)) (f:=fun x=>((List.drop (a+1) x,true,()):qb [i25,i4])) (k:=K) L 0).trans ?_)
 ·have c:=(d.2 _ (List.getElem_mem b)).1
  have h:IntKind.i64.wrap ((a:Int)+1)=((a+1:Nat):Int):=by rw [bn (by omega) (by omega)];omega
  have g:List.take (List.length (α:=Zc) L[i]) L[i]=L[i]:=List.take_length
  rw [hS,qg (by omega),qc (by omega),qB b,h]
  simp only [Int.toNat_natCast]
  rw [qc (by rw [c];omega)]
  erw [g]
  rw [qc (show kb (List.drop (a+1) L[i]) from by show (List.drop (a+1) L[i]).length<=1048576;rw [List.length_drop,c];omega)]
  exact qc (show dR ((a:Int),A) (List.drop (a+1) L[i]) from ⟨by show A.length<=1048576;omega,by rw [List.length_drop,c];omega⟩)
 ·rw [hS,qf (by omega)]
 ·cases List.find? (fun x=>bP ((a:Int),A) (List.drop (a+1) x)) L<;>rfl
theorem S5 {a:Zf}:qy a=true↔List.length (α:=Int) a.1<=4/\qq a.2.1=true/\(∀x∈(a.1:List Int),qq x=true)/\gL (Int.natAbs a.2.1) a.1<=1:=by
 unfold qy
 simp only [Bool.and_eq_true,decide_eq_true_eq,List.all_eq_true,and_assoc]
 constructor
 ·exact fun ⟨h1,h2,b,c⟩=>⟨h1,h2,b,by omega⟩
 ·exact fun ⟨h1,h2,b,c⟩=>⟨h1,h2,b,by omega⟩
theorem S6 {w:Nat}: ∀(k:Nat) {l a:Za},da w l->fK k l=some a->da w a
 | 0,l,a,b,h=>by simp only [fK,Option.some.injEq]at h;subst h;exact b
 | k+1,l,a,b,h=>by
   rw [fK]at h
   cases c:iW (k:Int) l with
   | none=>rw [c]at h;simp at h
   | some l'=>rw [c]at h;exact S6 k (Sc b c) h
theorem qOn {c:Nat} {A:Ze} (k:A.length<=16) (f: ∀a∈A,qy a=true/\(List.length (α:=Zc) a.1:Int)=(c:Int)):da (c+1+A.length) ((cU A).map enc):=by
 refine ⟨by unfold cU;rw [List.length_map,List.length_mapIdx];omega,fun x j=> ?_⟩
 obtain ⟨m,hm,rfl⟩:=List.mem_map.1 j
 unfold cU at hm
 obtain ⟨i,h,rfl⟩:=List.mem_mapIdx.1 hm
 have d:=f _ (List.getElem_mem h)
 obtain ⟨h1,h2,e,_⟩:=S5.1 d.1
 have g:List.length (α:=Int) A[i].1=c:=by have:(List.length (α:=Int) A[i].1:Int)=(c:Int):=d.2;omega
 have hu:(dP A.length i).length=A.length:=by unfold dP;rw [List.length_set,List.length_replicate]
 refine ⟨?_,fun z b=> ?_⟩
 ·show (A[i].1++A[i].2.1::dP A.length i:List Int).length=_
  rw [List.length_append,List.length_cons,hu,g];omega
 ·rcases List.mem_append.1 (show z∈(A[i].1++A[i].2.1::dP A.length i:List Int) from b)with b | b
  ·exact e z b
  ·rcases List.mem_cons.1 b with rfl | b
   ·exact h2
   ·rcases List.mem_or_eq_of_mem_set b with b | rfl
    ·rw [(List.mem_replicate.1 b).2];rfl
    ·rfl
theorem e49 (c:Zj): ∃N,m49 N c=some ((cj c).1,(cj c).2,()):=⟨70,by
 rw [m49,cj]
 cases h:qI c with
 | false=>rfl
 | true=>
   obtain ⟨hd,b,e⟩:=bB h
   obtain ⟨d,A⟩:=c
   change Int at d
   change List (Zf)at A
   have hd:0<=d/\d<=4:=hd
   have b:A.length<=16:=b
   obtain ⟨a,rfl⟩: ∃n:Nat,d=n:=⟨d.toNat,by omega⟩
   have g:=qOn b e
   rw [Bool.not_true,cond_false,cond_true]
   dsimp only
   rw [qXv _ (by omega) A b e _ _ (by omega),bn (n:=(a:Int) - 1) (by omega) (by omega),S4 _ _ _ (w:=a+1+A.length) (by omega) _ a _ g (by omega) _ (by omega),Int.toNat_natCast]
   cases i:fK a ((cU A).map enc)with
   | none=>rfl
   | some L=>
     have f:da (a+1+A.length) L:=S6 a g i
     dsimp only
     rw [qXQ _ (by omega) A b (w:=a+1+A.length) (by omega) _ L f _ (by have:=f.1;omega)]
     cases L.find? fun x=>bP ((a:Int),A) (x.drop (a+1))<;>rfl⟩
theorem s49:Sound Tryz.prog 49 g49:=qo (tt:=tt) (Γ:=Γ49) hT (qe s45 (qe s52 (qe s89 (qe s90 ql)))) hm (fn:=Tryz.f49) Tryz.func49 (c:=Tryz.f49.body.getD .skip) (by kernel_rfl) (by kernel_rfl) fun x a=>by
 obtain ⟨N,h⟩:=e49 x.1
 exact ⟨T49 N,p49,W0 hT (qp _),qRe N,(qUX N x.1).trans h⟩
def cZ (d w:Nat) (l:List Mxd):Prop:=l.length<=64/\ ∀m∈l,m.1.length=d/\m.2.2.2.length=w/\xa m
theorem S7 {d w:Nat} (hd:d<=100) (hw:w<=100) {a b:Mxd} {p q:Int} (c:a.1.length=d/\a.2.2.2.length=w) (e:b.1.length=d/\b.2.2.2.length=w) (h:(jn a p b q).2=true):(jn a p b q).1.1.length=d/\(jn a p b q).1.2.2.2.length=w/\xa (jn a p b q).1:=by
 have f:=dz (p:=p) (q:=q) (c.1.trans e.1.symm)
 have g:=dz (p:=p) (q:=q) (c.2.trans e.2.symm)
 unfold jn jnG at*
 simp only [Bool.and_eq_true,List.all_eq_true]at h
 obtain ⟨⟨h1,h2⟩,i⟩:=h
 have j:(List.map (α:=Int) (fun x=>x.tdiv ((max 1 (gL (p*a.2.1+q*b.2.1).natAbs (qu p q a.1 b.1++qu p q a.2.2.2 b.2.2.2)):Nat):Int)) (qu p q a.1 b.1)).length=d:=by rw [List.length_map,f];exact c.1
 have k:(List.map (α:=Int) (fun x=>x.tdiv ((max 1 (gL (p*a.2.1+q*b.2.1).natAbs (qu p q a.1 b.1++qu p q a.2.2.2 b.2.2.2)):Nat):Int)) (qu p q a.2.2.2 b.2.2.2)).length=w:=by rw [List.length_map,g];exact c.2
 exact ⟨j,k,⟨by show (List.map (α:=Int) _ _).length<=100;omega,by show (List.map (α:=Int) _ _).length<=100;omega⟩,h1,h2,i⟩
theorem xm {d w:Nat} (hd:d<=100) (hw:w<=100) {v:Int} {x:Mxd} (c:x.1.length=d/\x.2.2.2.length=w): ∀{l s b:List Mxd},(∀y∈l,y.1.length=d/\y.2.2.2.length=w)->cZ d w s->cT v x l s=some b->cZ d w b
 | [],s,b,_,hs,h=>by simp only [cT,Option.some.injEq]at h;subst h;exact hs
 | y::l,s,b,f,hs,h=>by
   rw [cT]at h
   have i:=fun z a=>f z (List.mem_cons_of_mem y a)
   cases j:decide (cAt v y.1<0)with
   | false=>rw [j]at h;exact xm hd hw c i hs h
   | true=>
     rw [j]at h
     simp only [cond_true]at h
     cases hm:(jn x (-cAt v y.1) y (cAt v x.1)).2 with
     | false=>rw [hm]at h;simp at h
     | true=>
       by_cases e:(s.length:Int)<64
       ·rw [hm,decide_eq_true e]at h
        simp only [Bool.and_self,cond_true]at h
        have g:=S7 hd hw c (f y (by simp)) hm
        refine xm hd hw c i ⟨by rw [List.length_append,List.length_singleton];omega,fun z a=> ?_⟩ h
        rcases List.mem_append.1 a with a | a
        ·exact hs.2 z a
        ·rw [List.mem_singleton.1 a];exact g
       ·rw [decide_eq_false e,Bool.and_false]at h;simp at h
theorem He {d w:Nat} (hd:d<=100) (hw:w<=100) {v:Int} {l:List Mxd} (c: ∀y∈l,y.1.length=d/\y.2.2.2.length=w): ∀{xs s a:List Mxd},(∀x∈xs,x.1.length=d/\x.2.2.2.length=w)->cZ d w s->dO v l xs s=some a->cZ d w a
 | [],s,a,_,hs,h=>by simp only [dO,Option.some.injEq]at h;subst h;exact hs
 | x::xs,s,a,f,hs,h=>by
   rw [dO]at h
   have g:=fun z i=>f z (List.mem_cons_of_mem x i)
   cases e:decide (0<cAt v x.1)with
   | false=>rw [e]at h;exact He hd hw c g hs h
   | true=>
     rw [e]at h
     simp only [cond_true]at h
     cases b:cT v x l s with
     | none=>rw [b]at h;simp at h
     | some s1=>
       rw [b]at h
       exact He hd hw c g (xm hd hw (f x (by simp)) c hs b) h
theorem xn {d w:Nat} {l:List Mxd} (h:cZ d w l): ∀y∈l,y.1.length=d/\y.2.2.2.length=w:=fun y a=>⟨(h.2 y a).1,(h.2 y a).2.1⟩
theorem S8 {d w:Nat} {l:List Mxd} (p:Mxd->Bool) (h:cZ d w l):cZ d w (l.filter p):=
 ⟨Nat.le_trans (List.length_filter_le _ _) h.1,fun x a=>h.2 x (List.mem_filter.1 a).1⟩
theorem S9 {d w:Nat} (hd:d<=100) (hw:w<=100) {v:Int} {l b:List Mxd} (a:cZ d w l) (h:gE v l=some b):cZ d w b:=
 He hd hw (xn a) (xn a) (S8 _ a) h
theorem Ta {d w:Nat} (hd:d<=100) (hw:w<=100): ∀(k:Nat) {l a:List Mxd},cZ d w l->eI k l=some a->cZ d w a
 | 0,l,a,b,h=>by simp only [eI,Option.some.injEq]at h;subst h;exact b
 | k+1,l,a,b,h=>by
   rw [eI]at h
   cases c:gE (k:Int) l with
   | none=>rw [c]at h;simp at h
   | some l'=>rw [c]at h;exact Ta hd hw k (S9 hd hw b c) h
abbrev LM:=List (Val qv)
theorem q1o (N:Nat) {d:Int} (A:Ze) (l:A.length<=16) (c:qI ((d,A):Zj)=true) (K:LM->ZO [i25,i4]) (n:Nat) (h:A.length<n):
 hW N d A K n 0 []=K (cU A):=by
 have e:=(bB c).2.2
 refine (bp (xs:=A) (F:=fun n i s=>hW N d A K n i s) (step:=fun i a (s:LM) K=>chk (s.length+[(mx0 A i a:Val qv)].length<=1048576) (K (s++[(mx0 A i a:Val qv)]))) (k:=K) (by omega) (fun n i s b=> ?_) (fun n i s b=> ?_) n [] h).trans ((Hc (f:=fun i a=>(mx0 A i a:Val qv)) A 0 [] (by simp only [List.length_nil];omega)).trans ?_)
 ·have j:List.length (α:=Zc) A[i].1<=4:=(ch (e _ (List.getElem_mem b)).1).1
  have g:(List.replicate A.length (qa Zd)).length=A.length:=List.length_replicate
  rw [hW,qg (by omega),qc (show b8 (d,A) from by show A.length<=1048576;omega),c,cond_true,qc (by omega),qB b]
  simp only [Int.toNat_natCast,g,List.nil_append,List.length_nil]
  rw [qc (by omega),qc (by omega),qc (by omega),qc (by omega),qc (by omega),qc (by omega)]
  rfl
 ·rw [hW,qf (by omega)]
 ·rw [List.nil_append]
  unfold cU
  simp only [Nat.zero_add]
theorem Tb (N:Nat) {d w:Nat} (hd:d<=4) (hw:w<=16) {v:Int} (a:0<=v/\v<(d:Int)) (t:Int) (u:Ze) (L:LM) (e:cZ d w L) (j:Nat) (f:j<L.length) (K:LM->ZO [i25,i4]): ∀(k i:Nat),i+k=L.length-> ∀n,k<n-> ∀s:LM,cZ d w s->
 hY N v (j:Int) t u L K n i s=bif decide (0<cAt v L[j].1)then (match cT v L[j] (L.drop i) s with
  | some F=>K F
  | none=>pR)else K s
 | 0,i,D,n+1,_,s,_=>by
   rw [hY,qf (by omega),List.drop_eq_nil_of_le (by omega)]
   cases decide (0<cAt v L[j].1)<;>rfl
 | k+1,i,D,n+1,H,s,hs=>by
   have G:=e.1
   have I:=hs.1
   have h1:i<L.length:=by omega
   obtain ⟨h,y,A⟩:=e.2 _ (List.getElem_mem f)
   obtain ⟨m,B,C⟩:=e.2 _ (List.getElem_mem h1)
   have l:List.length (α:=Zc) L[j].1=d:=h
   have o:List.length (α:=Zc) L[i].1=d:=m
   have p: ∀z:Zb,List.getD (α:=Zc) z v.toNat (qa Zd)=cAt v z:=fun _=>rfl
   have nx:=cH (w5 (x:=L[j].1) (v:=v) A.2.2.1 (by rw [l];exact a))
   have J:=cH (w5 (x:=L[i].1) (v:=v) C.2.2.1 (by rw [o];exact a))
   have g:=Tb N hd hw a t u L e j f K k (i+1) (by omega) n (by omega)
   rw [hY,qg (by omega),qc (by omega),qc (by omega),qB f,qc (by rw [l];exact a),p,cL h1,cT,b3 h1 (by omega)]
   by_cases b:0<cAt v L[j].1
   ·rw [qf (show ¬cAt v L[j].1<=0 by omega),qg b,qc (by omega),qc (by omega),qB h1,qc (by rw [o];exact a),p]
    by_cases q:cAt v L[i].1<0
    ·rw [qf (show ¬0<=cAt v L[i].1 by omega),qg q,bn (n:=0 - cAt v L[i].1) (by omega) (by omega),Int.zero_sub]
     have E:xb L[j] (-cAt v L[i].1) L[i] (cAt v L[j].1):=⟨⟨by rw [h,m],by rw [y,B]⟩,A,C,by omega,by omega⟩
     simp only [qc (show (0:Int)<=(j:Int)/\(j:Int)<(L.length:Int) by omega),qc (show (0:Int)<=(i:Int)/\(i:Int)<(L.length:Int) by omega),qc (show ((j:Int)).toNat<L.length by omega),qc (show ((i:Int)).toNat<L.length by omega),qc (show 0<=v/\v<(List.length (α:=Zc) L[j].1:Int) by rw [l];exact a),qc (show 0<=v/\v<(List.length (α:=Zc) L[i].1:Int) by rw [o];exact a),qc E]
     cases hm:(jn L[j] (-cAt v L[i].1) L[i] (cAt v L[j].1)).2 with
     | false=>rfl
     | true=>
       rw [Bool.not_true,cond_false,Bool.true_and]
       by_cases r:(s.length:Int)<64
       ·rw [qf (show ¬(64:Int)<=(s.length:Int) by omega),qg r,qc (by rw [List.length_singleton];omega)]
        have ok:cZ d w (s++[(jn L[j] (-cAt v L[i].1) L[i] (cAt v L[j].1)).1]):=⟨by rw [List.length_append,List.length_singleton];omega,fun z c=>by
            rcases List.mem_append.1 c with c | c
            ·exact hs.2 z c
            ·rw [List.mem_singleton.1 c];exact S7 (by omega) (by omega) ⟨h,y⟩ ⟨m,B⟩ hm⟩
        have:=g (s++[(jn L[j] (-cAt v L[i].1) L[i] (cAt v L[j].1)).1]) ok
        rw [qg b]at this
        exact this
       ·rw [qg (show (64:Int)<=(s.length:Int) by omega),qf r]
    ·rw [qg (show 0<=cAt v L[i].1 by omega),qf q]
     have:=g s hs
     rw [qg b]at this
     exact this
   ·rw [qg (show cAt v L[j].1<=0 by omega),qf b]
    have:=g s hs
    rw [qf b]at this
    exact this
theorem Tc (N:Nat) (g:100<=N) {d w:Nat} (hd:d<=4) (hw:w<=16) {v:Int} (e:0<=v/\v<(d:Int)) (b:Int) (c:Ze) (L:LM) (a:cZ d w L) (K:LM->ZO [i25,i4]): ∀(k i:Nat),i+k=L.length-> ∀n,k<n-> ∀s:LM,cZ d w s->
 hZ N v b c L K n i s=match dO v L (L.drop i) s with
  | some l=>K l
  | none=>pR
 | 0,i,h,n+1,_,s,_=>by
   rw [hZ,qf (by omega),List.drop_eq_nil_of_le (by omega)]
   rfl
 | k+1,i,h,n+1,p,s,hs=>by
   have m:=a.1
   have h1:i<L.length:=by omega
   have f:=Tc N g hd hw e b c L a K k (i+1) (by omega) n (by omega)
   rw [hZ,qg (by omega),b3 h1 (by omega)]
   refine (show _=_ from Tb N hd hw e b c L a i h1 _ L.length 0 (by omega) N (by omega) s hs).trans ?_
   rw [cL h1,dO,List.drop_zero]
   cases o:decide (0<cAt v L[i].1)with
   | false=>exact f s hs
   | true=>
     rw [cond_true,cond_true]
     cases j:cT v L[i] L s with
     | none=>rfl
     | some s1=>exact f s1 (xm (by omega) (by omega) (xn a _ (List.getElem_mem h1)) (xn a) hs j)
theorem q2u (N:Nat) (l:100<=N) {d w:Nat} (hd:d<=4) (hw:w<=16) (c:Int) (e:Ze) {v:Int} (g:0<=v/\v<(d:Int)) (L:LM) (b:cZ d w L) (K:LM->ZO [i25,i4]) (n:Nat) (f:L.length<n):
 hX N v c e L K n 0 []=K (L.filter fun x=>decide (cAt v x.1=0)):=by
 have j:=b.1
 refine (bp (xs:=L) (F:=fun n i s=>hX N v c e L K n i s) (step:=fun _ x (s:LM) K=>bif decide (cAt v x.1=0)then chk (s.length+[x].length<=1048576) (K (s++[x]))else K s) (k:=K) (by omega) (fun n i s a=> ?_) (fun n i s a=> ?_) n [] f).trans ((w4 L 0 [] (by simp only [List.length_nil];omega)).trans ?_)
 ·have h:List.length (α:=Zc) L[i].1=d:=(b.2 _ (List.getElem_mem a)).1
  rw [hX,qg (by omega),qc (by omega),qc (by omega),qB a,qc (by rw [h];exact g),qc (by omega),qc (by omega)]
  rfl
 ·rw [hX,qf (by omega)]
 ·rfl
theorem Td (N:Nat) (b:100<=N) {d w:Nat} (hd:d<=4) (hw:w<=16) (A:Ze) (e:A.length<=16) (c:qI (((d:Int),A):Zj)=true) (K:LM->ZO [i25,i4]): ∀(k:Nat) (L:LM),cZ d w L->k<=d-> ∀n,k<n->
 gM N (d:Int) A K n ((k:Int) - 1) L=match eI k L with
  | some l'=>K l'
  | none=>pR
 | 0,L,_,_,n+1,_=>by
   rw [gM,qf (by omega)]
   rfl
 | k+1,L,a,hk,n+1,l=>by
   have j:=a.1
   have h:=fun l' f=>Td N b hd hw A e c K k l' f (by omega) n (by omega)
   rw [show ((k+1:Nat):Int) - 1=(k:Int) by omega,gM,qg (by omega),qc (show b8 ((d:Int),A) from by show A.length<=1048576;omega),c,cond_true,q2u N b hd hw _ _ (by omega) L a _ N (by omega),eI]
   refine (show _=_ from Tc N b hd hw (by omega) (d:Int) A L a _ L.length 0 (by omega) N (by omega) _ (S8 _ a)).trans ?_
   rw [List.drop_zero,bn (n:=(k:Int) - 1) (by omega) (by omega)]
   show (match gE (k:Int) L with
    | some i=>gM N (d:Int) A K n ((k:Int) - 1) i
    | none=>pR)=_
   cases g:gE (k:Int) L with
   | none=>rfl
   | some l'=>exact h l' (S9 (by omega) (by omega) a g)
theorem qO4 (N:Nat) {d:Int} (A:Ze) (e:A.length<=16) (b:qI ((d,A):Zj)=true) (K:Unit->ZO [i25,i4]) (L:LM) (g:L.length<=64) (n:Nat) (c:L.length<n):
 gN N d A L K n 0=match L.find? mxT with
  | some m=>some (m.2.2.2,true,())
  | none=>K ():=by
 refine (bp (xs:=L) (F:=fun n i (_:Unit)=>gN N d A L K n i) (step:=fun _ x _ K=>bif mxT x then some ((x.2.2.2,true,()):qb [i25,i4])else K ()) (k:=K) (by omega) (fun n i s a=> ?_) (fun n i s a=> ?_) n () c).trans ((Hd (p:=mxT) (f:=fun x=>((x.2.2.2,true,()):qb [i25,i4])) (k:=K) L 0).trans ?_)
 ·rw [gN,qg (by omega),qc (show b8 (d,A) from by show A.length<=1048576;omega),b,cond_true]
  simp only [qc (show (0:Int)<=(i:Int)/\(i:Int)<(L.length:Int) by omega),qc (show ((i:Int)).toNat<L.length by omega),qB a]
  unfold mxT
  by_cases h1:(0:Int)<L[i].2.1
  ·rw [qg h1,decide_eq_true h1];rfl
  ·rw [qf h1,decide_eq_false h1,Bool.false_or]
   cases decide ((L[i].2.1:Int)=0)with
   | false=>rfl
   | true=>rw [cond_true,Bool.true_and]
 ·rw [gN,qf (by omega)]
 ·cases List.find? mxT L<;>rfl
theorem qP2 {b:Nat} {A:Ze} (hd:b<=4) (j:A.length<=16) (f: ∀a∈A,qy a=true/\(List.length (α:=Zc) a.1:Int)=(b:Int)):cZ b A.length (cU A):=by
 refine ⟨by unfold cU;rw [List.length_mapIdx];omega,fun m hm=> ?_⟩
 unfold cU at hm
 obtain ⟨i,h,rfl⟩:=List.mem_mapIdx.1 hm
 have d:=f _ (List.getElem_mem h)
 obtain ⟨h1,h2,e,_⟩:=S5.1 d.1
 have g:List.length (α:=Int) A[i].1=b:=by have:(List.length (α:=Int) A[i].1:Int)=(b:Int):=d.2;omega
 have hu:(dP A.length i).length=A.length:=by unfold dP;rw [List.length_set,List.length_replicate]
 refine ⟨g,hu,⟨by show List.length (α:=Int) A[i].1<=100;omega,by show (dP A.length i).length<=100;omega⟩,h2,e,fun z c=> ?_⟩
 rcases List.mem_or_eq_of_mem_set c with c | rfl
 ·rw [(List.mem_replicate.1 c).2];rfl
 ·rfl
theorem e35 (c:Zj) (h:mW c): ∃N,m35 N c=some ((dA c).1,(dA c).2,()):=by
 cases a:qI c with
 | false=>exact ⟨1,by
    obtain ⟨d,A⟩:=c
    change Int at d
    change List (Zf)at A
    have h:A.length<=1048576:=h
    have i:b8 ((d,A):Zj):=h
    rw [m35,hW,dA]
    dsimp only
    rw [qc i,a,gM,qc i,a,gN]
    cases decide ((0:Int)<(A.length:Int))<;>cases decide ((0:Int)<=IntKind.i64.wrap (d - 1))<;>rfl⟩
 | true=>exact ⟨100,by
    obtain ⟨hd,b,j⟩:=bB a
    obtain ⟨d,A⟩:=c
    change Int at d
    change List (Zf)at A
    have hd:0<=d/\d<=4:=hd
    have b:A.length<=16:=b
    obtain ⟨e,rfl⟩: ∃n:Nat,d=n:=⟨d.toNat,by omega⟩
    have g:=qP2 (by omega) b j
    rw [m35,dA,a]
    dsimp only
    rw [cond_true,q1o _ A b a _ _ (by omega),bn (n:=(e:Int) - 1) (by omega) (by omega),Td _ (by omega) (by omega) b A b a _ e _ g (by omega) _ (by omega),Int.toNat_natCast]
    cases k:eI e (cU A)with
    | none=>rfl
    | some L=>
      have f:=Ta (by omega) (by omega) e g k
      dsimp only
      rw [qO4 _ A b a _ L f.1 _ (by have:=f.1;omega)]
      cases L.find? mxT<;>rfl⟩
theorem s35:Sound Tryz.prog 35 g35:=qo (tt:=tt) (Γ:=Γ35) hT (qe s31 (qe s73 ql)) hm (fn:=Tryz.f35) Tryz.func35 (c:=Tryz.f35.body.getD .skip) (by kernel_rfl) (by kernel_rfl) fun x a=>by
 obtain ⟨N,h⟩:=e35 x.1 a
 exact ⟨T35 N,p35,qp _,q1V N,(qQo N x.1).trans h⟩
def ds:Opt:=((3:Int),((0:Int),(0:Int)),false,[],[],[])
def jz:Zh:=((1:Int),(1:Int))
def db (a:Zf):Zf:=(qx a.1 0 false).1
def Hf (c:Zj) (l:Zb):Zj:=(c.1,List.map db c.2++[(qP l jz false).1])
def fq (c:Zj) (l:Zb):Zg×Bool:=((q4 (Hf c l)).1,decide ((q4 (Hf c l)).2=0))
def mX (c:Zj) (l:Zb):Zg×Int:=q4 (Hf c l)
abbrev hiR (b:Zk):Zh:=b.2.2.2.2.1
def ovC (c:Zj) (l:Zb) (r:Zh) (s:Bool):Zj:=cy c [(qP l r s).1]
def gO (c:Zj) (l:Zb) (b:Zk):Opt:=
 bif (qP l (hiR b) (!b.2.2.2.2.2.1)).2 then
    (bif (cj (ovC c l (hiR b) (!b.2.2.2.2.2.1))).2 then
     (bif !b.2.2.2.2.2.1 then
        (bif (qP l (hiR b) false).2 then (bif decide ((q4 (ovC c l (hiR b) false)).2=0)then ((0:Int),hiR b,true,(q4 (ovC c l (hiR b) false)).1,[],(cj (ovC c l (hiR b) (!b.2.2.2.2.2.1))).1)else ds)else ds)
     else ((0:Int),hiR b,false,[],[],(cj (ovC c l (hiR b) (!b.2.2.2.2.2.1))).1))
    else ds)
 else ds
def cq (c:Zj) (l:Zb):Opt:=
 bif (qX c l).2 then
    (bif decide ((q4 c).2=2)then ds else
    bif decide ((q4 c).2=1)then (bif (cj c).2 then ((1:Int),((0:Int),(0:Int)),false,[],[],(cj c).1)else ds)else
    bif (qX c l).1.2.2.2.2.2.2 then ds else
    bif (qX c l).1.2.2.2.1 then gO c l (qX c l).1 else
    bif (fq c l).2 then ((2:Int),((0:Int),(0:Int)),false,(q4 c).1,(fq c l).1,[])else ds)
 else ds
def qV (c:Zj) (l:Zb):Opt:=bif dT c l then (bif decide ((cq c l).1=(3:Int))then cq c l else bif dE c l (cq c l)then cq c l else ds)else ds
def eP (c:Zj) (l:Zb):Opt:=bif dT c l then cq c l else ds
def fQ (c:Zj) (l:Zb):Prop:=qI c=true/\List.length (α:=Zf) c.2<16/\ @LT.lt Int _ c.1 4/\dr c l=true
theorem Te {c:Zj} {l:Zb}:dT c l=true↔fQ c l:=by
 unfold dT fQ
 simp only [Bool.and_eq_true,decide_eq_true_eq]
 constructor
 ·exact fun ⟨h1,h2,a,b⟩=>⟨h1,by omega,a,b⟩
 ·exact fun ⟨h1,h2,a,b⟩=>⟨h1,by omega,a,b⟩
theorem Tf {g:Nat} (a:0<g): ∀(l:List Int) (k:Nat),(∀x∈l,g ∣ x.natAbs)->gL k (l.map fun x=>x.tdiv (g:Int))*g=gL (k*g) l
 | [],_,_=>rfl
 | x::l,k,h=>by
   obtain ⟨t,b⟩:=h x (by simp)
   rw [List.map_cons,gL,gL,Tf a l _ fun y c=>h y (by simp [c]),<-Nat.gcd_mul_right]
   have:(x.tdiv (g:Int)).natAbs*g=x.natAbs:=by
    rw [Int.natAbs_tdiv,Int.natAbs_natCast,b,show (g*t).div g=t from Nat.mul_div_cancel_left t a,Nat.mul_comm]
   rw [this]
theorem Tg {co:List Int} {k:Int} {s:Bool} (f:co.length<=4) (hk:qq k=true) (i: ∀x∈co,qq x=true):(qx co k s).2=true:=by
 obtain ⟨d1,d2⟩:=va (co:=co) (k:=k)
 have m:max 1 (gL k.natAbs co)=max 1 (gL k.natAbs co):=rfl
 show (ff co k s (max 1 (gL k.natAbs co))).2=true
 have a: ∀(z:Int) (g:Nat),qq z=true->qq (z.tdiv (g:Int))=true:=fun z g b=>by
  unfold qq at b ⊢
  simp only [decide_eq_true_eq]at b ⊢
  have h1:(z.tdiv (g:Int)).natAbs<=z.natAbs:=by rw [Int.natAbs_tdiv];exact Nat.div_le_self _ _
  omega
 have key:gL (k.tdiv ((max 1 (gL k.natAbs co):Nat):Int)).natAbs (co.map fun x=>x.tdiv ((max 1 (gL k.natAbs co):Nat):Int))<=1:=by
  have e:=Tf (g:=max 1 (gL k.natAbs co)) (by omega) co (k.tdiv ((max 1 (gL k.natAbs co):Nat):Int)).natAbs d1
  have c:(k.tdiv ((max 1 (gL k.natAbs co):Nat):Int)).natAbs*max 1 (gL k.natAbs co)=k.natAbs:=by
   rw [Int.natAbs_tdiv,Int.natAbs_natCast]
   exact Nat.div_mul_cancel d2
  rw [c]at e
  generalize gL (k.tdiv ((max 1 (gL k.natAbs co):Nat):Int)).natAbs (co.map fun x=>x.tdiv ((max 1 (gL k.natAbs co):Nat):Int))=q at e ⊢
  generalize gL k.natAbs co=r at e
  by_cases d:r=0
  ·subst d;simp at e;omega
  ·have hm:max 1 r=r:=by omega
   rw [hm]at e
   have:q*r=1*r:=by omega
   exact Nat.le_of_eq (Nat.eq_of_mul_eq_mul_right (by omega) this)
 unfold ff
 have h:qy ((List.map (α:=Int) (fun x=>x.tdiv ((max 1 (gL k.natAbs co):Nat):Int)) co,k.tdiv ((max 1 (gL k.natAbs co):Nat):Int),s):Zf)=true:=by
  refine Qg.2 ⟨by show (List.map (α:=Int) _ co).length<=4;rw [List.length_map];exact f,a _ _ hk,fun x j=> ?_,key⟩
  obtain ⟨y,l,rfl⟩:=List.mem_map.1 j
  exact a _ _ (i y l)
 rw [h];rfl
theorem xo {c:Zj} {l:Zb} (h:fQ c l):l.length<=3/\(l.length:Int)=c.1/\ ∀x∈l,qq x=true:=by
 obtain ⟨_,_,b,a⟩:=h
 have:=(hM a).1
 exact ⟨by omega,this,(hM a).2⟩
theorem Th {a:Zf} (h:qy a=true):bx a.1 0 false:=by
 obtain ⟨h1,h2,b⟩:=ch h
 exact ⟨by have h1:List.length (α:=Zc) a.1<=4:=h1;omega,by unfold inI;omega,fun x c=>by
  have: @LE.le Int _ (-400000000) x/\ @LE.le Int _ x 400000000:=b x c
  unfold inI;omega⟩
theorem Ti {a:Zf} (h:qy a=true):(qx a.1 0 false).2=true:=by
 obtain ⟨h1,h2,b⟩:=ch h
 exact Tg h1 rfl fun x c=>by have:=b x c;unfold qq;exact decide_eq_true this
theorem qPo:qh jz=true:=by decide
theorem Tj {l:Zb} (a:l.length<=4) (b: ∀x∈l,qq x=true):dV l jz false:=⟨a,b,qPo⟩
theorem Tk {l:Zb} (a:l.length<=4) (c: ∀x∈l,qq x=true):(qP l jz false).2=true:=by
 unfold qP
 refine Tg (by unfold c8;rw [List.length_map];exact a) (by decide) fun x d=> ?_
 obtain ⟨n,b,rfl⟩:=List.mem_map.1 (show x∈List.map (α:=Int) (fun n=> -n*(1:Int)) l from d)
 have:=c n b
 unfold qq at this ⊢
 simp only [decide_eq_true_eq]at this ⊢
 omega
theorem Tl: ∀(cs:Zi) (v:Nat) (p a:Zg),dQ cs v p=some a->a.length=p.length+cs.length
 | [],v,p,a,h=>by simp only [dQ,Option.some.injEq]at h;subst h;rfl
 | c::cs,v,p,a,h=>by
   rw [dQ]at h
   cases b:cW p c.2 with
   | none=>rw [b]at h;simp at h
   | some l=>
     rw [b]at h
     simp only at h
     cases d:qh (bG (qO (c.1,l) v))with
     | false=>rw [d]at h;simp at h
     | true=>
       rw [d]at h
       have:=Tl cs (v+1) _ a h
       simp only [List.length_append,List.length_cons,List.length_nil]at this ⊢
       omega
theorem Tm (c:Zj):(q4 c).1.length<=4/\((q4 c).2=0∨(q4 c).2=1∨(q4 c).2=2):=by
 unfold q4
 cases a:qI c with
 | false=>exact ⟨by show 0<=4;decide,.inr (.inr rfl)⟩
 | true=>
   simp only [cond_true]
   cases b:cV (c.1:Int).toNat (qS c.1 c.2)with
   | none=>exact ⟨by show 0<=4;decide,.inr (.inr rfl)⟩
   | some L=>
     obtain ⟨g1,_,_⟩:=DD a b
     obtain ⟨hd,_,_⟩:=bB a
     have d:(c.1:Int).toNat<=4:=Int.toNat_le.2 hd.2
     simp only
     unfold o0
     cases decide ((0:Int)<(List.length (α:=Zf) (L.getD 0 ((0:Int),[])).2:Int))with
     | true=>exact ⟨by show 0<=4;decide,.inr (.inl rfl)⟩
     | false=>
       simp only [cond_false]
       cases hw:dQ (L.drop 1) 0 []with
       | none=>exact ⟨by show 0<=4;decide,.inr (.inr rfl)⟩
       | some p=>
         have:=Tl _ _ _ _ hw
         simp only [List.length_drop,List.length_nil]at this
         exact ⟨by show p.length<=4;omega,.inl rfl⟩
theorem Hg (c:Zj):(cj c).1.length<=16:=by
 unfold cj
 cases a:qI c with
 | false=>show 0<=16;decide
 | true=>
   have d:=(bB a).2.1
   simp only [cond_true]
   cases fK (c.1:Int).toNat ((cU c.2).map enc)with
   | none=>show 0<=16;decide
   | some L=>
     simp only
     cases b:L.find? fun x=>bP c (x.drop ((c.1:Int).toNat+1))with
     | none=>show 0<=16;decide
     | some x=>
       have h:=List.find?_some b
       have h:bP c (x.drop ((c.1:Int).toNat+1))=true:=h
       unfold bP at h
       rw [a,Bool.true_and]at h
       cases hd:decide (((x.drop ((c.1:Int).toNat+1)).length:Int)=(List.length (α:=Zf) c.2:Int))with
       | false=>erw [hd]at h;simp at h
       | true=>
         have:=of_decide_eq_true hd
         show (x.drop ((c.1:Int).toNat+1)).length<=16
         omega
theorem Tn {c:Zj} {l:Zb} (h:((qX c l).1.2.2.2.1:Bool)=true):qh (hiR (qX c l).1)=true:=(qPk (c:=kI c l) (v:=c.1)).2.2 h
theorem To: ∀(l:Zg),l.length<=16->Bd (.slice 28 Y28) l:=fun l h=>⟨by omega,fun _ _=>⟨trivial,trivial⟩⟩
theorem qUd: ∀(l:Zb),l.length<=16->Bd (.slice 3 Zd) l:=fun l h=>⟨by omega,fun _ _=>trivial⟩
theorem bdO (k:Int) (r:Zh) (s:Bool) {a b:Zg} {m:Zb} (c:a.length<=16) (d:b.length<=16) (hm:m.length<=16):Bd Y31 ((k,r,s,a,b,m):Opt):=⟨trivial,⟨trivial,trivial⟩,trivial,To a c,To b d,qUd m hm⟩
theorem ft:Bd Y31 ds:=bdO 3 ((0:Int),(0:Int)) false (by decide) (by decide) (by decide)
theorem Hh (c:Zj):(q4 c).1.length<=16:=Nat.le_trans (Tm c).1 (by decide)
theorem qV8 (c:Zj) (l:Zb) (b:Zk):Bd Y31 (gO c l b)/\((gO c l b).1=(3:Int)->gO c l b=ds):=by
 unfold gO
 cases (qP l (hiR b) (!b.2.2.2.2.2.1)).2 with
 | false=>exact ⟨ft,fun _=>rfl⟩
 | true=>
   cases (cj (ovC c l (hiR b) (!b.2.2.2.2.2.1))).2 with
   | false=>exact ⟨ft,fun _=>rfl⟩
   | true=>
     simp only [cond_true]
     cases !b.2.2.2.2.2.1 with
     | false=>exact ⟨bdO 0 (hiR b) false (by decide) (by decide) (Hg _),fun h=>absurd (show (0:Int)=3 from h) (by decide)⟩
     | true=>
       simp only [cond_true]
       cases (qP l (hiR b) false).2 with
       | false=>exact ⟨ft,fun _=>rfl⟩
       | true=>
         cases decide ((q4 (ovC c l (hiR b) false)).2=0)with
         | false=>exact ⟨ft,fun _=>rfl⟩
         | true=>exact ⟨bdO 0 (hiR b) true (Hh _) (by decide) (Hg _),fun h=>absurd (show (0:Int)=3 from h) (by decide)⟩
theorem xp (c:Zj) (l:Zb):Bd Y31 (cq c l)/\((cq c l).1=(3:Int)->cq c l=ds):=by
 unfold cq
 cases (qX c l).2 with
 | false=>exact ⟨ft,fun _=>rfl⟩
 | true=>
   simp only [cond_true]
   cases decide ((q4 c).2=2)with
   | true=>exact ⟨ft,fun _=>rfl⟩
   | false=>
     simp only [cond_false]
     cases decide ((q4 c).2=1)with
     | true=>
       cases (cj c).2 with
       | false=>exact ⟨ft,fun _=>rfl⟩
       | true=>exact ⟨bdO 1 ((0:Int),(0:Int)) false (by decide) (by decide) (Hg _),fun h=>absurd (show (1:Int)=3 from h) (by decide)⟩
     | false=>
       simp only [cond_false]
       cases ((qX c l).1.2.2.2.2.2.2:Bool)with
       | true=>exact ⟨ft,fun _=>rfl⟩
       | false=>
         cases ((qX c l).1.2.2.2.1:Bool)with
         | true=>exact qV8 c l _
         | false=>
           cases (fq c l).2 with
           | false=>exact ⟨ft,fun _=>rfl⟩
           | true=>exact ⟨bdO 2 ((0:Int),(0:Int)) false (Hh _) (Hh _) (by decide),fun h=>absurd (show (2:Int)=3 from h) (by decide)⟩
theorem Tp (c:Zj) (l:Zb):dE c l ds=false:=by
 unfold dE
 cases qI c&&(decide ((c.1:Int)<4)&&dr c l)<;>rfl
theorem qYC (c:Zj) (l:Zb):(bif dE c l (eP c l)then eP c l else ds)=qV c l:=by
 unfold qV eP
 cases dT c l with
 | false=>rw [cond_false,cond_false,Tp];rfl
 | true=>
   simp only [cond_true]
   by_cases h:(cq c l).1=(3:Int)
   ·rw [(xp c l).2 h,Tp];rfl
   ·rw [decide_eq_false h];rfl
theorem q1u (c:Zj) (l:Zb):Bd Y31 (qV c l):=by
 unfold qV
 have h:=(xp c l).1
 cases dT c l with
 | false=>exact ft
 | true=>
   simp only [cond_true]
   cases decide ((cq c l).1=(3:Int))with
   | true=>exact h
   | false=>
     cases dE c l (cq c l)with
     | true=>exact h
     | false=>exact ft
end Go.T
