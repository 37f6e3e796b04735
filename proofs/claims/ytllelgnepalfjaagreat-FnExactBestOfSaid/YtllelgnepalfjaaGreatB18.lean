import Derived.Test.YtllelgnepalfjaaGreatE38
import Derived.Test.YtllelgnepalfjaaGreatE40
import Derived.Test.YtllelgnepalfjaaGreatE22
import Derived.Test.YtllelgnepalfjaaGreatT13
import Derived.Test.YtllelgnepalfjaaGreatB16
set_option linter.unusedSimpArgs false
set_option linter.unusedVariables false
namespace Go.T
noncomputable section
open Go Go.Proofs
set_option maxHeartbeats 4000000
set_option maxRecDepth 100000
def dR (c:Zj) (m:Zb):Prop:=b8 c/\m.length<=1048576
def g52:G:={ps:=[i35,i25],rs:=[i4],dp:=true,pre:=fun x=>dR x.1 x.2.1,fn:=fun x=>(bP x.1 x.2.1,())}
def kC (N:Nat) (f:Int) (g:Bool) (h d:Int) (i:Zb) (j k:Int) (c:Zb) (e l:Int) (m:Ze) (k2:(Zb)->ZO [i4]):Nat->Int->(Zb)->ZO [i4]
 | 0,_,_=>none
 | n+1,a,b=>bif (decide (a<e))then (chk (0<=a/\a<(c.length:Int)) (chk (0<=a/\a<(b.length:Int)) (chk (a.toNat<b.length) (chk (0<=a/\a<(b.length:Int)) (chk (a.toNat<b.length) (kC N f g h d i j k c e l m k2 n (IntKind.i64.wrap (a+(1:Int))) (b.set a.toNat (IntKind.i64.wrap (((b.getD a.toNat (qa Zd)):Int)+(IntKind.i64.wrap (d*((c.getD a.toNat (qa Zd)):Int))))))))))))else (k2 b)
def eJ (N:Nat) (c:Zb) (e f:Int) (b:Ze) (k0:Int->Bool->(Zb)->ZO [i4]):Nat->Int->Bool->Int->(Zb)->ZO [i4]
 | 0,_,_,_,_=>none
 | n+1,d,g,a,i=>bif (decide (a<e))then (chk (0<=a/\a<(c.length:Int)) (bif (decide (((c.getD a.toNat (qa Zd)):Int)<(0:Int)))then (some (false,()))else (bif (decide ((400000000:Int)<((c.getD a.toNat (qa Zd)):Int)))then (some (false,()))else (chk (0<=a/\a<(b.length:Int)) (kC N d g a ((c.getD a.toNat (qa Zd)):Int) c e a ((b.getD a.toNat (qa Y68)).1:Zb) (((b.getD a.toNat (qa Y68)).1:Zb).length:Int) f b (fun (h:Zb)=>chk (0<=a/\a<(b.length:Int)) (bif g then (eJ N c e f b k0 n (IntKind.i64.wrap (d+(IntKind.i64.wrap (((c.getD a.toNat (qa Zd)):Int)*(((b.getD a.toNat (qa Y68)).2).1:Int))))) true (IntKind.i64.wrap (a+(1:Int))) h)else (bif (decide ((0:Int)<((c.getD a.toNat (qa Zd)):Int)))then (chk (0<=a/\a<(b.length:Int)) (eJ N c e f b k0 n (IntKind.i64.wrap (d+(IntKind.i64.wrap (((c.getD a.toNat (qa Zd)):Int)*(((b.getD a.toNat (qa Y68)).2).1:Int))))) (((b.getD a.toNat (qa Y68)).2).2:Bool) (IntKind.i64.wrap (a+(1:Int))) h))else (eJ N c e f b k0 n (IntKind.i64.wrap (d+(IntKind.i64.wrap (((c.getD a.toNat (qa Zd)):Int)*(((b.getD a.toNat (qa Y68)).2).1:Int))))) false (IntKind.i64.wrap (a+(1:Int))) h)))) N (0:Int) i)))))else (k0 d g i)
def ja (N:Nat) (d:Int) (e:Bool) (c:Int) (b:Zb) (k4:Unit->ZO [i4]):Nat->Int->ZO [i4]
 | 0,_=>none
 | n+1,a=>bif (decide (a<c))then (chk (0<=a/\a<(b.length:Int)) (chk (a.toNat<b.length) (bif (!(decide (((b.getD a.toNat (qa Zd)):Int)=(0:Int))))then (some (false,()))else (ja N d e c b k4 n (IntKind.i64.wrap (a+(1:Int)))))))else (k4 ())
def m52 (N:Nat) (a:Zj) (b:Zb):ZO [i4]:=bif (!((qI a):Bool))then (some (false,()))else (bif (!(decide ((b.length:Int)=((a.2:Ze).length:Int))))then (some (false,()))else (chk (0<=(a.1:Int)/\(a.1:Int)<=(a.1:Int)/\(a.1:Int)<=1048576) (eJ N b (b.length:Int) (a.1:Int) (a.2:Ze) (fun (c:Int) (d:Bool) (e:Zb)=>ja N c d (e.length:Int) e (fun (_:Unit)=>bif (decide ((0:Int)<c))then (some (true,()))else (bif (decide (c=(0:Int)))then (some (d,()))else (some (false,())))) N (0:Int)) N (0:Int) false (0:Int) (List.replicate (a.1:Int).toNat (qa Zd)))))
def Γ52:Gam:=[(45,g45)]
theorem qZL:Gam.get Γ52 45=some g45:=rfl
def vI:List Bool:=[O,O,I,O,O,I,I,I,I,I,O,O,O,O,O,O,O,O,O,O,O,O,O,O,O,O,O,O,I,I,I,O,O,O,O,O,O,O,O,O,O,O,O,O,O,O,I,I,I]
def DN:Nm:=⟨vI,[],false⟩
theorem Py:NmS DN vI [] false:=nmS
def vJ:List Bool:=[O,O,I,O,O,I,I,I,O,O,O,O,O,O,O,O,O,O,O,O,O,O,O,O,O,O,O,O,I,I,I]
def DO:Nm:=⟨vJ,[],false⟩
theorem Pz:NmS DO vJ [] false:=nmS
def vK:List Bool:=[O,O,O,O,O,O,I,I,O,O,O,O,O,O,O,O,O,O,O,O,O,O,O,O,O,O,O,O,O,O,O,O,O,O,O,O,O,O,O,O,O,O,O,O,O,O,O,O,O,O,O,O,O,O,O,O,O,O,O,O,O,O,O,O,O,O,O,O,O,O,O,O,O,O,O,O,O,O,O,O,O,O,O,O,O,O,O,I,I,I]
def DP:Nm:=⟨vK,[],false⟩
theorem PA:NmS DP vK [] false:=nmS
def DQ:List Bool:=[O,O,O,O,O,I,I,I]
def PB:Nm:=⟨DQ,[],false⟩
theorem q3h:NmS PB DQ [] false:=nmS
def DR:List Bool:=[O,O,I,O,O,I,I,I,I,I,O,O,O,O,O,O,O,O,O,O,O,O,O,O,O,O,O,O,I,I,I]
def PC:Nm:=⟨DR,[],false⟩
theorem qT9:NmS PC DR [] false:=nmS
def DS:List Bool:=[O,O,O,O,O,O,I,I]
def PD:Nm:=⟨DS,[],false⟩
theorem qSn:NmS PD DS [] false:=nmS
def o6:Nat->Nm:=fun i=>if i=10 then DN else if i=5 then DO else if i=18 then DP else ⟨[],[],false⟩
def o7:Nat->Option Nm:=fun i=>if i=0 then some PB else if i=2 then some PC else if i=4 then some PD else none
theorem p52:qi tr0 (Tryz.f52.body.getD .skip)=true:=by kernel_rfl
def T52 (N:Nat):Tab:={tr:=tr0,lp:=o6,ex:=o7,rg:=rg0,jn:=jn0,fuel:=N}
theorem qNs (N:Nat):qj Tryz.prog (T52 N):=qn fun _=>rfl
theorem kD (N:Nat):qr (T52 N) tr0 o6 o7 rg0 jn0 N false:=qt
def PE:Code:=cut [I,I,I,O,I,I,I,I,I,O,I,I,I,O,I,I,I] (Tryz.f52.body.getD .skip)
theorem qP1 (N:Nat) (a:Int) (b:Bool) (d e:Int) (f:Zb) (g h:Int) (m:Zb) (o j:Int) (k:Ze) {k2:(Zb)->ZO [i4]} {Q:ZQ [i4]} {c:Code} (q:c=PE) (s: ∀st,Q .ret st=qz tt true [i4] [.tmp 4] st) (h2: ∀(p:Zb),Q (.exit 2) ⟨[u,u,.one (.ptr 0 0 0),u,u,.one (.own 1),.one (.int .i64 a),.one (.bool b),.one (.int .i64 d),.one (.int .i64 e),u,u,u,u,u,u,u,u,u,u,u,u,u,u,u,u,u,u,.one (.sl 3 Zd f 2),.one (.int .i64 g),.one (.int .i64 h),u,u,u,u,u,u,u,u,u,u,u,u,u,u,u,u,u,u,u,u,u,u,u,u,u,u,u,u,u,u,u,u,u,u,u,u,u,u,u,u,u,u,u,u,u,u,u,u,u,u,u,u,u,u,u,u,u,u,u,u,u,u,u,u,u,u,u,u,u,u,u,u,u,u],[.box [.int .i64 j,.sl 68 Y68 k 2],.row 3 Zd p true true 0]⟩=k2 p): ∀(n:Nat) (i:Int) (l:Zb),qw (qd tt Γ52 (T52 N) c) false DN Q n ⟨[u,u,.one (.ptr 0 0 0),u,u,.one (.own 1),.one (.int .i64 a),.one (.bool b),.one (.int .i64 d),.one (.int .i64 e),u,u,u,u,u,u,u,u,u,u,u,u,u,u,u,u,u,u,.one (.sl 3 Zd f 2),.one (.int .i64 g),.one (.int .i64 h),u,u,u,u,u,u,u,u,u,u,u,u,u,u,u,.one (.sl 3 Zd m 2),.one (.int .i64 o),.one (.int .i64 i),u,u,u,u,u,u,u,u,u,u,u,u,u,u,u,u,u,u,u,u,u,u,u,u,u,u,u,u,u,u,u,u,u,u,u,u,u,u,u,u,u,u,u,u,u,u,u,u,u,u,u,u,u,u,u,u],[.box [.int .i64 j,.sl 68 Y68 k 2],.row 3 Zd l true true 0]⟩=kC N a b d e f g h m o j k k2 n i l:=by
 intro n;induction n with
 | zero=>intros;rfl
 | succ n r=>
   intro i l
   rw [qD,qE q,kC];unfold PE Tryz.f52
   simp -implicitDefEqProofs [kD,o7,Py,vI,qT9,DR,h2,r]
def PF:Code:=cut [I,I,I,O,I,I,I] (Tryz.f52.body.getD .skip)
theorem q1t (N:Nat) (d:Zb) (f g:Int) (b:Ze) {k0:Int->Bool->(Zb)->ZO [i4]} {Q:ZQ [i4]} {c:Code} (r:c=PF) (k: ∀st,Q .ret st=qz tt true [i4] [.tmp 4] st) (q: ∀(m:Int) (o:Bool) (p:Zb),Q (.exit 0) ⟨[u,u,u,u,u,.one (.own 0),.one (.int .i64 m),.one (.bool o),u,u,u,u,u,u,u,u,u,u,u,u,u,u,u,u,u,u,u,u,u,u,u,u,u,u,u,u,u,u,u,u,u,u,u,u,u,u,u,u,u,u,u,u,u,u,u,u,u,u,u,u,u,u,u,u,u,u,u,u,u,u,u,u,u,u,u,u,u,u,u,u,u,u,u,u,u,u,u,u,u,u,u,u,u,u,u,u,u,u,u,u,u,u,u,u,u],[.row 3 Zd p true true 0]⟩=k0 m o p): ∀(n:Nat) (e:Int) (h:Bool) (a:Int) (j:Zb),qw (qd tt Γ52 (T52 N) c) false DO Q n ⟨[u,u,.one (.ptr 0 0 0),u,u,.one (.own 1),.one (.int .i64 e),.one (.bool h),u,u,u,u,u,u,u,u,u,u,u,u,u,u,u,u,u,u,u,u,.one (.sl 3 Zd d 2),.one (.int .i64 f),.one (.int .i64 a),u,u,u,u,u,u,u,u,u,u,u,u,u,u,u,u,u,u,u,u,u,u,u,u,u,u,u,u,u,u,u,u,u,u,u,u,u,u,u,u,u,u,u,u,u,u,u,u,u,u,u,u,u,u,u,u,u,u,u,u,u,u,u,u,u,u,u,u,u,u,u,u,u,u],[.box [.int .i64 g,.sl 68 Y68 b 2],.row 3 Zd j true true 0]⟩=eJ N d f g b k0 n e h a j:=by
 intro n;induction n with
 | zero=>intros;rfl
 | succ n l=>
   intro e h a j
   rw [qD,qE r];unfold PF Tryz.f52
   simp -implicitDefEqProofs [kD,o6,o7,Py,vI,q3h,DQ,k,q]
   rewrite [qP1 (k2:=(fun (i:Zb)=>chk (0<=a/\a<(b.length:Int)) (bif h then (eJ N d f g b k0 n (IntKind.i64.wrap (e+(IntKind.i64.wrap (((d.getD a.toNat (qa Zd)):Int)*(((b.getD a.toNat (qa Y68)).2).1:Int))))) true (IntKind.i64.wrap (a+(1:Int))) i)else (bif (decide ((0:Int)<((d.getD a.toNat (qa Zd)):Int)))then (chk (0<=a/\a<(b.length:Int)) (eJ N d f g b k0 n (IntKind.i64.wrap (e+(IntKind.i64.wrap (((d.getD a.toNat (qa Zd)):Int)*(((b.getD a.toNat (qa Y68)).2).1:Int))))) (((b.getD a.toNat (qa Y68)).2).2:Bool) (IntKind.i64.wrap (a+(1:Int))) i))else (eJ N d f g b k0 n (IntKind.i64.wrap (e+(IntKind.i64.wrap (((d.getD a.toNat (qa Zd)):Int)*(((b.getD a.toNat (qa Y68)).2).1:Int))))) false (IntKind.i64.wrap (a+(1:Int))) i))))) N _ _ _ _ _ _ _ _ _ _ _ ?_ ?_ ?_]
   ·rewrite [eJ];first | rfl | simp -implicitDefEqProofs [l]
   ·rfl
   ·intro;simp only [qA,qC,k]
   ·intro i;simp -implicitDefEqProofs [kD,Pz,vJ,l]
def PG:Code:=cut [I,I,I,I,O,I,I,I] (Tryz.f52.body.getD .skip)
theorem qSd (N:Nat) (a:Int) (b:Bool) (e:Int) (f:Zb) {k4:Unit->ZO [i4]} {Q:ZQ [i4]} {c:Code} (h:c=PG) (i: ∀st,Q .ret st=qz tt true [i4] [.tmp 4] st) (g:Q (.exit 4) ⟨[u,u,u,u,u,u,.one (.int .i64 a),.one (.bool b),u,u,u,u,u,u,u,u,u,u,u,u,u,u,u,u,u,u,u,u,u,u,u,u,u,u,u,u,u,u,u,u,u,u,u,u,u,u,u,u,u,u,u,u,u,u,u,u,u,u,u,u,u,u,u,u,u,u,u,u,u,u,u,u,u,u,u,u,u,u,u,u,u,u,u,u,u,u,u,u,u,u,u,u,u,u,u,u,u,u,u,u,u,u,u,u,u],[]⟩=k4 ()): ∀(n:Nat) (d:Int),qw (qd tt Γ52 (T52 N) c) false DP Q n ⟨[u,u,u,u,u,u,.one (.int .i64 a),.one (.bool b),u,u,u,u,u,u,u,u,u,u,u,u,u,u,u,u,u,u,u,u,u,u,u,u,u,u,u,u,u,u,u,u,u,u,u,u,u,u,u,u,u,u,u,u,u,u,u,u,u,u,u,u,u,u,u,u,u,u,u,u,u,u,u,u,u,u,u,u,u,u,u,u,u,u,u,u,u,u,u,.one (.own 0),.one (.int .i64 e),.one (.int .i64 d),u,u,u,u,u,u,u,u,u,u,u,u,u,u,u],[.row 3 Zd f true true 0]⟩=ja N a b e f k4 n d:=by
 intro n;induction n with
 | zero=>intros;rfl
 | succ n j=>
   intro d
   rw [qD,qE h,ja];unfold PG Tryz.f52
   simp -implicitDefEqProofs [kD,o7,PA,vK,qSn,DS,i,g,j]
theorem qRB (N:Nat) (d:Zj) (e:Zb):qd tt Γ52 (T52 N) (Tryz.f52.body.getD .skip) (qk tt true [i4] [.tmp 4]) (qm [i35,i25] 105 (d,e,()))=m52 N d e:=by
 unfold Tryz.f52
 simp -implicitDefEqProofs [kD,o6,Pz,vJ,qZL,g45]
 rewrite [q1t (k0:=(fun (a:Int) (b:Bool) (c:Zb)=>ja N a b (c.length:Int) c (fun (_:Unit)=>bif (decide ((0:Int)<a))then (some (true,()))else (bif (decide (a=(0:Int)))then (some (b,()))else (some (false,())))) N (0:Int))) N _ _ _ _ ?_ ?_ ?_]
 ·rewrite [m52];first | rfl | simp -implicitDefEqProofs []
 ·rfl
 ·intro;simp only [qA,qC,qJ]
 ·intro a b c;simp -implicitDefEqProofs [kD,o6,PA,vK]
  rewrite [qSd N _ _ _ _ ?_ ?_ ?_]
  ·first | rfl | simp -implicitDefEqProofs []
  ·rfl
  ·intro;simp only [qA,qC,qJ]
  ·simp -implicitDefEqProofs [kD]
theorem vL {y n x:Int} {i:Nat} (c:y.natAbs<=i*160000000000000000) (d:i<16) (a:0<=n/\n<=400000000) (b: -400000000<=x/\x<=400000000):IntKind.i64.wrap (y+IntKind.i64.wrap (n*x))=y+n*x/\(y+n*x).natAbs<=(i+1)*160000000000000000:=by
 obtain ⟨h1,h2⟩:=Og c a b
 refine ⟨?_,h2⟩
 generalize n*x=z at*
 rw [bn (n:=z) (by omega) (by omega)]
 exact bn (by omega) (by omega)
theorem DT {n:Int} {i:Nat} (c:0<=n/\n<=400000000): ∀{s co:List Int},(∀y∈s,y.natAbs<=i*160000000000000000)->(∀x∈co, -400000000<=x/\x<=400000000)-> ∀y∈cD n s co,y.natAbs<=(i+1)*160000000000000000
 | [],_,_,_,y,a=>by simp [cD]at a
 | _::_,[],_,_,y,a=>by simp [cD]at a
 | z::s,x::co,hs,b,y,a=>by
   have a:y∈(z+n*x)::cD n s co:=a
   rcases List.mem_cons.1 a with rfl | a
   ·exact (Og (hs z (by simp)) c (b x (by simp))).2
   ·exact DT c (fun u hu=>hs u (by simp [hu])) (fun u hu=>b u (by simp [hu])) y a
theorem PH (N:Nat) (p:Int) (q:Bool) (r n:Int) (s:Zb) (t u v:Int) (w:Ze) (K:Zb->ZO [i4]) (j:0<=n/\n<=400000000) (i0:Nat) (h:i0<16) (c:Zb) (D:c.length<=4): ∀(cs a b pre:Zb),c=b++cs->b.length=pre.length->cs.length=a.length->(∀x∈cs, -400000000<=(x:Int)/\(x:Int)<=(400000000:Int))->(∀y∈a,Int.natAbs y<=i0*160000000000000000)-> ∀m,cs.length<m->
 kC N p q r n s t u c c.length v w K m pre.length (pre++a)=K (pre++cD n a cs)
 | [],[],b,pre,d,f,_,_,_,m+1,_=>by
   have:c.length=pre.length:=by rw [d,List.append_nil,f]
   rw [kC,qf (by omega)]
   simp [cD]
 | x::cs,y::a,b,pre,d,f,e,k,l,m+1,hm=>by
   have hlen:c.length=pre.length+(cs.length+1):=by rw [d,List.length_append,f];rfl
   have F:(pre++y::a).length=pre.length+(a.length+1):=by rw [List.length_append];rfl
   have B: ∀dv:Zc,c.getD pre.length dv=x:=fun dv=>by rw [d,<-f];exact fm b x cs dv
   have C: ∀dv:Zc,(pre++y::a).getD pre.length dv=y:=fun dv=>fm pre y a dv
   obtain ⟨E,_⟩:=vL (i:=i0) (l y (by simp)) h j (k x (by simp))
   rw [kC,qg (by omega),qc (by omega),qc (by omega),qc (by omega),qc (by omega),qc (by omega),Int.toNat_natCast,B,C,E,mG,b3 (n:=c.length) (by omega) (by omega)]
   have o:=PH N p q r n s t u v w K j i0 h c D cs a (b++[x]) (pre++[((y:Int)+n*(x:Int):Int)]) (by rw [d];simp) (by simp [f]) (by simpa using e) (fun z g=>k z (by simp [g])) (fun z g=>l z (by simp [g])) m (by simp only [List.length_cons]at hm;omega)
   have A:(((pre++[((y:Int)+n*(x:Int):Int)]).length:Nat):Int)=((pre.length+1:Nat):Int):=by simp
   rw [A,List.append_assoc]at o
   refine (show _=_ from o).trans ?_
   simp [cD]
 | [],_::_,_,_,_,_,e,_,_,_,_=>by simp at e
 | _::_,[],_,_,_,_,e,_,_,_,_=>by simp at e
theorem PI (b c s:Bool) {α:Type} {x:Bool->α}:(bif b then x true else bif c then x s else x false)=x (b||(c&&s)):=by cases b<;>cases c<;>rfl
theorem PJ (N:Nat) (H:10<=N) (d:Nat) (hd:d<=4) (c:Zb) (l:Ze) (I:l.length<=16) (w: ∀a∈l,okD d a) (K:Int->Bool->Zb->ZO [i4]): ∀(ys:Zb) (f:Ze) (e:Zb) (lp:Ze),c=e++ys->l=lp++f->e.length=lp.length->ys.length=f.length-> ∀(k:Int) (b:Bool) (s:Zb),s.length=d->Int.natAbs k<=e.length*160000000000000000->(∀y∈s,Int.natAbs y<=e.length*160000000000000000)-> ∀m,ys.length<m->
 eJ N c c.length d l K m k b e.length s=bif ys.all (fun x=>inR x 0 400000000)then K (k+qQ (fun a=>a.2.1) ys f) (b||bq ys f) (dB s ys f)else some (false,())
 | [],[],e,lp,i,j,r,_,k,b,s,_,_,_,m+1,_=>by
   have:c.length=e.length:=by rw [i,List.append_nil]
   rw [eJ,qf (by omega)]
   simp [qQ,bq,dB]
 | n::ys,a::f,e,lp,i,j,r,g,k,b,s,hs,hk,z,m+1,hm=>by
   have hlen:c.length=e.length+(ys.length+1):=by rw [i,List.length_append];rfl
   have P:l.length=e.length+(f.length+1):=by rw [j,List.length_append,r];rfl
   have Q:ys.length=f.length:=by simpa using g
   have v:e.length<16:=by omega
   have G: ∀dv:Zc,c.getD e.length dv=n:=fun dv=>by rw [i];exact fm e n ys dv
   have F: ∀dv:Zf,l.getD e.length dv=a:=fun dv=>by rw [j,r];exact fm lp a f dv
   have q:okD d a:=w a (by rw [j];simp)
   have M:(List.length (α:=Int) a.1:Int)=d:=q.2
   have O:List.length (α:=Int) a.1=d:=by omega
   rw [eJ,qg (by omega),qc (by omega),Int.toNat_natCast,G,F,List.all_cons]
   by_cases o:(n:Int)<0
   ·rw [qg o,gu (show ¬(0<=(n:Int)/\(n:Int)<=400000000) from fun h=>absurd h.1 (Int.not_le.2 o))];rfl
   rw [qf o]
   by_cases p:(400000000:Int)<(n:Int)
   ·rw [qg p,gu (show ¬(0<=(n:Int)/\(n:Int)<=400000000) from fun h=>absurd h.2 (Int.not_le.2 p))];rfl
   have u:0<=(n:Int)/\(n:Int)<=(400000000:Int):=⟨Int.not_lt.1 o,Int.not_lt.1 p⟩
   obtain ⟨J,L⟩:=vL hk v u (fg q.1)
   rw [qf p,qc (by omega),gq u,J]
   have t:=fun B=>PH N k b e.length n c c.length e.length d l B u e.length v a.1 (by omega) a.1 s [] [] rfl rfl (by omega) (fH q.1) z N (by omega)
   simp only [List.nil_append,List.length_nil]at t
   refine (show _=_ from t _).trans ?_
   rw [qc (by omega),qc (by omega)]
   rw [PI (x:=fun C=>eJ N c c.length d l K m (k+(n:Int)*(a.2.1:Int)) C (IntKind.i64.wrap ((e.length:Int)+1)) (cD n s a.1)),b3 (n:=c.length) (by omega) (by omega)]
   have A:=PJ N H d hd c l I w K ys f (e++[n]) (lp++[a]) (by rw [i];simp) (by rw [j];simp) (by simp [r]) (by simpa using g) (k+(n:Int)*(a.2.1:Int)) (b||(decide ((0:Int)<n)&&a.2.2)) (cD n s a.1) (by rw [oR (by omega)];exact hs) (by rw [List.length_append];exact L) (by rw [List.length_append];exact DT u z (fH q.1)) m (by simp only [List.length_cons]at hm;omega)
   have D:(((e++[n]).length:Nat):Int)=((e.length+1:Nat):Int):=by simp
   rw [D]at A
   refine (show _=_ from A).trans ?_
   simp only [Bool.true_and]
   have E:k+(n:Int)*(a.2.1:Int)+qQ (fun a=>a.2.1) ys f=k+qQ (fun a=>a.2.1) (n::ys) (a::f):=by
    show _=k+((n:Int)*(a.2.1:Int)+qQ (fun a=>a.2.1) ys f)
    rw [Int.add_assoc]
   have e3:(b||(decide ((0:Int)<n)&&a.2.2)||bq ys f)=(b||bq (n::ys) (a::f)):=by
    show _=(b||((decide ((0:Int)<n)&&a.2.2)||bq ys f))
    rw [Bool.or_assoc]
   rw [E,e3]
   rfl
 | [],_::_,_,_,_,_,_,g,_,_,_,_,_,_,_,_=>by simp at g
 | _::_,[],_,_,_,_,_,g,_,_,_,_,_,_,_,_=>by simp at g
theorem PK {c:Zj} {m:Zb} (b:qI c=true) (hm:(m.length:Int)=(List.length (α:=Zf) c.2:Int)):bP c m=bif m.all (fun x=>inR x 0 400000000)then (bif (dB (List.replicate (c.1:Int).toNat (0:Int)) m c.2).all (fun x=>decide (x=0))then (bif decide (0<qQ (fun a=>a.2.1) m c.2)then true else bif decide (qQ (fun a=>a.2.1) m c.2=0)then bq m c.2 else false)else false)else false:=by
 obtain ⟨hd,_,f⟩:=bB b
 have e: ∀a∈(c.2:Ze),List.length (α:=Int) a.1=(c.1:Int).toNat:=fun a d=>by
  have:(List.length (α:=Int) a.1:Int)=(c.1:Int):=(f a d).2
  rw [<-this];rfl
 unfold bP
 rw [b,decide_eq_true hm,qYP e]
 simp only [Bool.and_self,cond_true]
 cases m.all (fun x=>inR x 0 400000000)<;>cases (List.range (c.1:Int).toNat).all (fun v=>decide (qQ (cfV (v:Int)) m c.2=0))<;>cases decide (0<qQ (fun a=>a.2.1) m c.2)<;>cases decide (qQ (fun a=>a.2.1) m c.2=0)<;>cases bq m c.2<;>rfl
theorem e52 (c:Zj) (m:Zb) (h:dR c m): ∃N,m52 N c m=some (bP c m,()):=⟨20,by
 rw [m52]
 cases b:qI c with
 | false=>unfold bP;rw [b];rfl
 | true=>
 obtain ⟨hd,p,j⟩:=bB b
 by_cases hm:(m.length:Int)=(List.length (α:=Zf) c.2:Int)
 ·rw [PK b hm,decide_eq_true hm]
  have f:(((c.1:Int).toNat:Nat):Int)=(c.1:Int):=Int.toNat_of_nonneg hd.1
  have l:(c.1:Int).toNat<=4:=Int.toNat_le.2 hd.2
  simp only [Bool.not_true,cond_false]
  rw [qc ⟨hd.1,Int.le_refl _,Int.le_trans hd.2 (by decide)⟩]
  have t:=fun K=>PJ 20 (by omega) (c.1:Int).toNat l m c.2 p (fun a e=>by rw [f];exact j a e) K m c.2 [] [] rfl rfl rfl (by omega) 0 false (List.replicate (c.1:Int).toNat (0:Int)) (by simp) (by simp) (fun y r=>by rw [(List.mem_replicate.1 r).2];simp) 20 (by omega)
  simp only [f,List.length_nil]at t
  refine (show _=_ from t _).trans ?_
  cases m.all (fun x=>inR x 0 400000000)with
  | false=>rfl
  | true=>
    simp only [cond_true,Bool.false_or,Int.zero_add]
    have o: ∀a∈(c.2:Ze),List.length (α:=Int) a.1=(c.1:Int).toNat:=fun a e=>by
      have:(List.length (α:=Int) a.1:Int)=(c.1:Int):=(j a e).2
      rw [<-this];rfl
    have q:(dB (List.replicate (c.1:Int).toNat (0:Int)) m c.2).length=(c.1:Int).toNat:=(vf (d:=(c.1:Int).toNat) m c.2 _ o (by simp)).1
    generalize dB (List.replicate (c.1:Int).toNat (0:Int)) m c.2=V at q ⊢
    refine (bp (xs:=(V:Zb)) (F:=fun n i (_:Unit)=>ja 20 (qQ (fun a=>a.2.1) m c.2) (bq m c.2) (V.length:Int) V _ n i) (step:=fun _ x _ K=>bif decide ((x:Int)=(0:Int))then K ()else some (false,())) (k:=fun _=>bif decide (0<qQ (fun a=>a.2.1) m c.2)then some (true,())else bif decide (qQ (fun a=>a.2.1) m c.2=0)then some (bq m c.2,())else some (false,())) (by omega) (fun n i s g=>by rw [ja,qg (by omega),qc (by omega),qc (by omega),qB g,b4]) (fun n i s g=>by rw [ja,qf (by omega)]) _ () (by omega)).trans ((dK V 0).trans ?_)
    cases V.all (fun x=>decide ((x:Int)=0))<;>cases decide (0<qQ (fun a=>a.2.1) m c.2)<;>cases decide (qQ (fun a=>a.2.1) m c.2=0)<;>cases bq m c.2<;>rfl
 ·unfold bP;rw [b,decide_eq_false hm];rfl⟩
theorem s52:Sound Tryz.prog 52 g52:=qo (tt:=tt) (Γ:=Γ52) hT (qe s45 ql) hm (fn:=Tryz.f52) Tryz.func52 (c:=Tryz.f52.body.getD .skip) (by kernel_rfl) (by kernel_rfl) fun x a=>by
 obtain ⟨N,h⟩:=e52 x.1 x.2.1 a
 exact ⟨T52 N,p52,qp _,qNs N,(qRB N x.1 x.2.1).trans h⟩
def g39:G:={ps:=[i35,i25],rs:=[i4],dp:=true,pre:=fun x=>dR x.1 x.2.1,fn:=fun x=>(bP x.1 x.2.1,())}
def kE (N:Nat) (e:Zb) (g:Int) (h:Bool) (b f:Int) (d:Ze) (k2:(Zb)->ZO [i4]):Nat->Int->(Zb)->ZO [i4]
 | 0,_,_=>none
 | n+1,a,c=>bif (decide (a<f))then (chk (0<=a/\a<(c.length:Int)) (chk (a.toNat<c.length) (chk (0<=b/\b<(e.length:Int)) (chk (0<=b/\b<(d.length:Int)) (chk (0<=a/\a<(((d.getD b.toNat (qa Y68)).1:Zb).length:Int)) (chk (0<=a/\a<(c.length:Int)) (chk (a.toNat<c.length) (kE N e g h b f d k2 n (IntKind.i64.wrap (a+(1:Int))) (c.set a.toNat (IntKind.i64.wrap (((c.getD a.toNat (qa Zd)):Int)+(IntKind.i64.wrap (((e.getD b.toNat (qa Zd)):Int)*((((d.getD b.toNat (qa Y68)).1:Zb).getD a.toNat (qa Zd)):Int))))))))))))))else (k2 c)
def eK (N:Nat) (b:Zb) (e:Int) (c:Ze) (k0:Int->Bool->(Zb)->ZO [i4]):Nat->Int->Bool->Int->(Zb)->ZO [i4]
 | 0,_,_,_,_=>none
 | n+1,d,g,a,h=>bif (decide (a<(b.length:Int)))then (chk (0<=a/\a<(b.length:Int)) (bif (!((inR ((b.getD a.toNat (qa Zd)):Int) (0 400000000:Int)):Bool))then (some (false,()))else (kE N b d g a e c (fun (f:Zb)=>chk (0<=a/\a<(b.length:Int)) (chk (0<=a/\a<(c.length:Int)) (bif g then (eK N b e c k0 n (IntKind.i64.wrap (d+(IntKind.i64.wrap (((b.getD a.toNat (qa Zd)):Int)*(((c.getD a.toNat (qa Y68)).2).1:Int))))) true (IntKind.i64.wrap (a+(1:Int))) f)else (chk (0<=a/\a<(b.length:Int)) (bif (decide ((0:Int)<((b.getD a.toNat (qa Zd)):Int)))then (chk (0<=a/\a<(c.length:Int)) (eK N b e c k0 n (IntKind.i64.wrap (d+(IntKind.i64.wrap (((b.getD a.toNat (qa Zd)):Int)*(((c.getD a.toNat (qa Y68)).2).1:Int))))) (((c.getD a.toNat (qa Y68)).2).2:Bool) (IntKind.i64.wrap (a+(1:Int))) f))else (eK N b e c k0 n (IntKind.i64.wrap (d+(IntKind.i64.wrap (((b.getD a.toNat (qa Zd)):Int)*(((c.getD a.toNat (qa Y68)).2).1:Int))))) false (IntKind.i64.wrap (a+(1:Int))) f)))))) N (0:Int) h)))else (k0 d g h)
def jb (N:Nat) (d:Int) (e:Bool) (c:Int) (f:Ze) (b:Zb) (k4:Unit->ZO [i4]):Nat->Int->ZO [i4]
 | 0,_=>none
 | n+1,a=>bif (decide (a<c))then (chk (0<=a/\a<(b.length:Int)) (chk (a.toNat<b.length) (bif (!(decide (((b.getD a.toNat (qa Zd)):Int)=(0:Int))))then (some (false,()))else (jb N d e c f b k4 n (IntKind.i64.wrap (a+(1:Int)))))))else (k4 ())
def m39 (N:Nat) (a:Zj) (c:Zb):ZO [i4]:=chk (b8 a) (bif (!((qI a):Bool))then (some (false,()))else (bif (!(decide ((c.length:Int)=((a.2:Ze).length:Int))))then (some (false,()))else (chk (0<=(a.1:Int)/\(a.1:Int)<=(a.1:Int)/\(a.1:Int)<=1048576) (eK N c (a.1:Int) (a.2:Ze) (fun (b:Int) (d:Bool) (e:Zb)=>jb N b d (a.1:Int) (a.2:Ze) e (fun (_:Unit)=>bif (decide ((0:Int)<b))then (some (true,()))else (bif (decide (b=(0:Int)))then (some (d,()))else (some (false,())))) N (0:Int)) N (0:Int) false (0:Int) (List.replicate (a.1:Int).toNat (qa Zd))))))
def Γ39:Gam:=[(31,g31),(62,g62)]
theorem PL:Gam.get Γ39 31=some g31/\Gam.get Γ39 62=some g62:=⟨rfl,rfl⟩
def vM:List Bool:=[O,I,I,O,O,I,I,I,I,I]
def DU:Nm:=⟨vM,[],false⟩
theorem PM:NmS DU vM [] false:=nmS
def vN:List Bool:=[O,I,I,O,O,I,I,I,I]
def DV:Nm:=⟨vN,[],false⟩
theorem PN:NmS DV vN [] false:=nmS
def vO:List Bool:=[O,O,I,O,O,I,I,I,O,O,I]
def DW:Nm:=⟨vO,[],false⟩
theorem PO:NmS DW vO [] false:=nmS
def DX:List Bool:=[O,O,I,O,O,I,I,I]
def PQ:Nm:=⟨DX,[],false⟩
theorem qZT:NmS PQ DX [] false:=nmS
def DY:List Bool:=[O,I,I,O,O,I,I,I,I]
def PR:Nm:=⟨DY,[],false⟩
theorem qX4:NmS PR DY [] false:=nmS
def DZ:List Bool:=[O,O,O,O,O,O,I,I]
def PS:Nm:=⟨DZ,[],false⟩
theorem q0x:NmS PS DZ [] false:=nmS
def o8:Nat->Tree:=fun i=>if i=14 then .quiet 0 (.quiet 1 (.quiet 2 (.quiet 3 (.quiet 4 (.quiet 5 (.quiet 6 (.quiet 7 (.quiet 8 (.quiet 9 (.quiet 10 (.quiet 11 (.quiet 12 (.quiet 13 (.quiet 14 (.quiet 15 (.quiet 16 (.quiet 17 (.quiet 18 (.quiet 19 (.quiet 20 (.quiet 21 (.alt 22 .done .stop))))))))))))))))))))))else if i=15 then .quiet 0 (.quiet 1 (.quiet 2 (.quiet 3 (.quiet 4 (.quiet 5 (.quiet 6 (.quiet 7 (.quiet 8 (.quiet 9 (.quiet 10 (.quiet 11 (.quiet 12 (.quiet 13 .done)))))))))))))else .done
def o9:Nat->Nm:=fun i=>if i=12 then DU else if i=7 then DV else if i=18 then DW else ⟨[],[],false⟩
def pa:Nat->Option Nm:=fun i=>if i=0 then some PQ else if i=2 then some PR else if i=4 then some PS else none
theorem p39:qi o8 (Tryz.f39.body.getD .skip)=true:=by kernel_rfl
def T39 (N:Nat):Tab:={tr:=o8,lp:=o9,ex:=pa,rg:=rg0,jn:=jn0,fuel:=N}
theorem qNg (N:Nat):qj Tryz.prog (T39 N):=qn fun _=>rfl
theorem kF (N:Nat):qr (T39 N) o8 o9 pa rg0 jn0 N false:=qt
def PT:Code:=cut [I,I,I,I,I,O,I,I,I,I,O,I,I,O,I,I,I] (Tryz.f39.body.getD .skip)
theorem q04 (N:Nat) (a:Zb) (b:Int) (d:Bool) (e g:Int) (h:Ze) {k2:(Zb)->ZO [i4]} {Q:ZQ [i4]} {c:Code} (k:c=PT) (m: ∀st,Q .ret st=qz tt true [i4] [.tmp 4] st) (h2: ∀(j:Zb),Q (.exit 2) ⟨[u,.one (.sl 3 Zd a 2),.one (.ptr 0 0 0),u,u,.one (.own 1),.one (.int .i64 b),.one (.bool d),.one (.int .i64 e),u,u,u,u,u,u,u,u,u,u,u,u,u,u,u,u,u,u,u,u,u,u,u,u,u,u,u,u,u,u,u,u,u,u,u,u,u,u,u,u,u,u,u,u,u,u,u,u,u,u,u,u,u,u,u,u,u,u,u,u,u,u,u,u,u,u,u,u,u,u,u,u,u,u,u,u,u,u,u,u,u,u,u,u,u,u,u,u,u,u,u,u,u,u,u,u,u,u,u,u,u,u,u,u,u],[.box [.int .i64 g,.sl 68 Y68 h 2],.row 3 Zd j true true 0]⟩=k2 j): ∀(n:Nat) (f:Int) (i:Zb),qw (qd tt Γ39 (T39 N) c) false DU Q n ⟨[u,.one (.sl 3 Zd a 2),.one (.ptr 0 0 0),u,u,.one (.own 1),.one (.int .i64 b),.one (.bool d),.one (.int .i64 e),.one (.int .i64 f),u,u,u,u,u,u,u,u,u,u,u,u,u,u,u,u,u,u,u,u,u,u,u,u,u,u,u,u,u,u,u,u,u,u,u,u,u,u,u,u,u,u,u,u,u,u,u,u,u,u,u,u,u,u,u,u,u,u,u,u,u,u,u,u,u,u,u,u,u,u,u,u,u,u,u,u,u,u,u,u,u,u,u,u,u,u,u,u,u,u,u,u,u,u,u,u,u,u,u,u,u,u,u,u],[.box [.int .i64 g,.sl 68 Y68 h 2],.row 3 Zd i true true 0]⟩=kE N a b d e g h k2 n f i:=by
 intro n;induction n with
 | zero=>intros;rfl
 | succ n l=>
   intro f i
   rw [qD,qE k,kE];unfold PT Tryz.f39
   simp -implicitDefEqProofs [kF,o8,pa,PM,vM,qX4,DY,h2,l]
def PU:Code:=cut [I,I,I,I,I,O,I,I,I] (Tryz.f39.body.getD .skip)
theorem qUT (N:Nat) (d:Zb) (f:Int) (b:Ze) {k0:Int->Bool->(Zb)->ZO [i4]} {Q:ZQ [i4]} {c:Code} (p:c=PU) (j: ∀st,Q .ret st=qz tt true [i4] [.tmp 4] st) (o: ∀(k:Int) (l:Bool) (m:Zb),Q (.exit 0) ⟨[u,u,.one (.ptr 0 0 0),u,u,.one (.own 1),.one (.int .i64 k),.one (.bool l),u,u,u,u,u,u,u,u,u,u,u,u,u,u,u,u,u,u,u,u,u,u,u,u,u,u,u,u,u,u,u,u,u,u,u,u,u,u,u,u,u,u,u,u,u,u,u,u,u,u,u,u,u,u,u,u,u,u,u,u,u,u,u,u,u,u,u,u,u,u,u,u,u,u,u,u,u,u,u,u,u,u,u,u,u,u,u,u,u,u,u,u,u,u,u,u,u,u,u,u,u,u,u,u,u,u],[.box [.int .i64 f,.sl 68 Y68 b 2],.row 3 Zd m true true 0]⟩=k0 k l m): ∀(n:Nat) (e:Int) (h:Bool) (a:Int) (i:Zb),qw (qd tt Γ39 (T39 N) c) false DV Q n ⟨[u,.one (.sl 3 Zd d 2),.one (.ptr 0 0 0),u,u,.one (.own 1),.one (.int .i64 e),.one (.bool h),.one (.int .i64 a),u,u,u,u,u,u,u,u,u,u,u,u,u,u,u,u,u,u,u,u,u,u,u,u,u,u,u,u,u,u,u,u,u,u,u,u,u,u,u,u,u,u,u,u,u,u,u,u,u,u,u,u,u,u,u,u,u,u,u,u,u,u,u,u,u,u,u,u,u,u,u,u,u,u,u,u,u,u,u,u,u,u,u,u,u,u,u,u,u,u,u,u,u,u,u,u,u,u,u,u,u,u,u,u,u],[.box [.int .i64 f,.sl 68 Y68 b 2],.row 3 Zd i true true 0]⟩=eK N d f b k0 n e h a i:=by
 intro n;induction n with
 | zero=>intros;rfl
 | succ n q=>
   intro e h a i
   rw [qD,qE p];unfold PU Tryz.f39
   simp -implicitDefEqProofs [kF,o9,pa,PM,vM,qZT,DX,PL,g62,j,o]
   rewrite [q04 (k2:=(fun (g:Zb)=>chk (0<=a/\a<(d.length:Int)) (chk (0<=a/\a<(b.length:Int)) (bif h then (eK N d f b k0 n (IntKind.i64.wrap (e+(IntKind.i64.wrap (((d.getD a.toNat (qa Zd)):Int)*(((b.getD a.toNat (qa Y68)).2).1:Int))))) true (IntKind.i64.wrap (a+(1:Int))) g)else (chk (0<=a/\a<(d.length:Int)) (bif (decide ((0:Int)<((d.getD a.toNat (qa Zd)):Int)))then (chk (0<=a/\a<(b.length:Int)) (eK N d f b k0 n (IntKind.i64.wrap (e+(IntKind.i64.wrap (((d.getD a.toNat (qa Zd)):Int)*(((b.getD a.toNat (qa Y68)).2).1:Int))))) (((b.getD a.toNat (qa Y68)).2).2:Bool) (IntKind.i64.wrap (a+(1:Int))) g))else (eK N d f b k0 n (IntKind.i64.wrap (e+(IntKind.i64.wrap (((d.getD a.toNat (qa Zd)):Int)*(((b.getD a.toNat (qa Y68)).2).1:Int))))) false (IntKind.i64.wrap (a+(1:Int))) g))))))) N _ _ _ _ _ _ ?_ ?_ ?_]
   ·rewrite [eK];first | rfl | simp -implicitDefEqProofs []
   ·rfl
   ·intro;simp only [qA,qC,j]
   ·intro g;simp -implicitDefEqProofs [kF,o8,PN,vN,q]
def PV:Code:=cut [I,I,I,I,I,I,O,I,I,I] (Tryz.f39.body.getD .skip)
theorem q2I (N:Nat) (a:Int) (b:Bool) (e:Int) (f:Ze) (g:Zb) {k4:Unit->ZO [i4]} {Q:ZQ [i4]} {c:Code} (i:c=PV) (j: ∀st,Q .ret st=qz tt true [i4] [.tmp 4] st) (h:Q (.exit 4) ⟨[u,u,u,u,u,u,.one (.int .i64 a),.one (.bool b),u,u,u,u,u,u,u,u,u,u,u,u,u,u,u,u,u,u,u,u,u,u,u,u,u,u,u,u,u,u,u,u,u,u,u,u,u,u,u,u,u,u,u,u,u,u,u,u,u,u,u,u,u,u,u,u,u,u,u,u,u,u,u,u,u,u,u,u,u,u,u,u,u,u,u,u,u,u,u,u,u,u,u,u,u,u,u,u,u,u,u,u,u,u,u,u,u,u,u,u,u,u,u,u,u,u],[]⟩=k4 ()): ∀(n:Nat) (d:Int),qw (qd tt Γ39 (T39 N) c) false DW Q n ⟨[u,u,.one (.ptr 0 0 0),u,u,.one (.own 1),.one (.int .i64 a),.one (.bool b),u,u,.one (.int .i64 d),u,u,u,u,u,u,u,u,u,u,u,u,u,u,u,u,u,u,u,u,u,u,u,u,u,u,u,u,u,u,u,u,u,u,u,u,u,u,u,u,u,u,u,u,u,u,u,u,u,u,u,u,u,u,u,u,u,u,u,u,u,u,u,u,u,u,u,u,u,u,u,u,u,u,u,u,u,u,u,u,u,u,u,u,u,u,u,u,u,u,u,u,u,u,u,u,u,u,u,u,u,u,u],[.box [.int .i64 e,.sl 68 Y68 f 2],.row 3 Zd g true true 0]⟩=jb N a b e f g k4 n d:=by
 intro n;induction n with
 | zero=>intros;rfl
 | succ n k=>
   intro d
   rw [qD,qE i,jb];unfold PV Tryz.f39
   simp -implicitDefEqProofs [kF,pa,PO,vO,q0x,DZ,j,h,k]
theorem qQA (N:Nat) (a:Zj) (d:Zb):qd tt Γ39 (T39 N) (Tryz.f39.body.getD .skip) (qk tt true [i4] [.tmp 4]) (qm [i35,i25] 114 (a,d,()))=m39 N a d:=by
 unfold Tryz.f39
 simp -implicitDefEqProofs [kF,o9,PN,vN,PL,g31]
 rewrite [qUT (k0:=(fun (b:Int) (c:Bool) (e:Zb)=>jb N b c (a.1:Int) (a.2:Ze) e (fun (_:Unit)=>bif (decide ((0:Int)<b))then (some (true,()))else (bif (decide (b=(0:Int)))then (some (c,()))else (some (false,())))) N (0:Int))) N _ _ _ ?_ ?_ ?_]
 ·rewrite [m39];first | rfl | simp -implicitDefEqProofs []
 ·rfl
 ·intro;simp only [qA,qC,qJ]
 ·intro b c e;simp -implicitDefEqProofs [kF,o9,PO,vO]
  rewrite [q2I N _ _ _ _ _ ?_ ?_ ?_]
  ·first | rfl | simp -implicitDefEqProofs []
  ·rfl
  ·intro;simp only [qA,qC,qJ]
  ·simp -implicitDefEqProofs [kF]
theorem PW (N:Nat) (u:Int) (v:Bool) (i:Nat) (m:Zb) (l:Ze) (hm:i<m.length) (j:i<l.length) (n:Int) (o:m[i]=n) (c:Zb) (k:l[i].1=c) (K:Zb->ZO [i4]) (p:0<=n/\n<=400000000) (h:i<16) (C:c.length<=4): ∀(cs a b pre:Zb),c=b++cs->b.length=pre.length->cs.length=a.length->(∀x∈cs, -400000000<=(x:Int)/\(x:Int)<=(400000000:Int))->(∀y∈a,Int.natAbs y<=i*160000000000000000)-> ∀q,cs.length<q->
 kE N m u v i c.length l K q pre.length (pre++a)=K (pre++cD n a cs)
 | [],[],b,pre,d,f,_,_,_,q+1,_=>by
   have:c.length=pre.length:=by rw [d,List.append_nil,f]
   rw [kE,qf (by omega)]
   simp [cD]
 | x::cs,y::a,b,pre,d,f,e,r,s,q+1,D=>by
   have hlen:c.length=pre.length+(cs.length+1):=by rw [d,List.length_append,f];rfl
   have F:(pre++y::a).length=pre.length+(a.length+1):=by rw [List.length_append];rfl
   have A: ∀dv:Zc,c.getD pre.length dv=x:=fun dv=>by rw [d,<-f];exact fm b x cs dv
   have B: ∀dv:Zc,(pre++y::a).getD pre.length dv=y:=fun dv=>fm pre y a dv
   obtain ⟨E,_⟩:=vL (i:=i) (s y (by simp)) h p (r x (by simp))
   rw [kE,qg (by omega),qc (by omega),qc (by omega),qc (by omega),qc (by omega),qB hm,qB j,o,k,qc (by omega),qc (by omega),qc (by omega),Int.toNat_natCast,A,B,E,mG,b3 (n:=c.length) (by omega) (by omega)]
   have t:=PW N u v i m l hm j n o c k K p h C cs a (b++[x]) (pre++[((y:Int)+n*(x:Int):Int)]) (by rw [d];simp) (by simp [f]) (by simpa using e) (fun z g=>r z (by simp [g])) (fun z g=>s z (by simp [g])) q (by simp only [List.length_cons]at D;omega)
   have w:(((pre++[((y:Int)+n*(x:Int):Int)]).length:Nat):Int)=((pre.length+1:Nat):Int):=by simp
   rw [w,List.append_assoc]at t
   refine (show _=_ from t).trans ?_
   simp [cD]
 | [],_::_,_,_,_,_,e,_,_,_,_=>by simp at e
 | _::_,[],_,_,_,_,e,_,_,_,_=>by simp at e
theorem PX (N:Nat) (E:10<=N) (d:Nat) (hd:d<=4) (c:Zb) (l:Ze) (H:l.length<=16) (v: ∀a∈l,okD d a) (K:Int->Bool->Zb->ZO [i4]): ∀(ys:Zb) (f:Ze) (e:Zb) (lp:Ze),c=e++ys->l=lp++f->e.length=lp.length->ys.length=f.length-> ∀(k:Int) (b:Bool) (s:Zb),s.length=d->Int.natAbs k<=e.length*160000000000000000->(∀y∈s,Int.natAbs y<=e.length*160000000000000000)-> ∀m,ys.length<m->
 eK N c d l K m k b e.length s=bif ys.all (fun x=>inR x 0 400000000)then K (k+qQ (fun a=>a.2.1) ys f) (b||bq ys f) (dB s ys f)else some (false,())
 | [],[],e,lp,g,h,o,_,k,b,s,_,_,_,m+1,_=>by
   have:c.length=e.length:=by rw [g,List.append_nil]
   rw [eK,qf (by omega)]
   simp [qQ,bq,dB]
 | n::ys,a::f,e,lp,g,h,o,i,k,b,s,hs,hk,w,m+1,hm=>by
   have hlen:c.length=e.length+(ys.length+1):=by rw [g,List.length_append];rfl
   have O:l.length=e.length+(f.length+1):=by rw [h,List.length_append,o];rfl
   have I:ys.length=f.length:=by simpa using i
   have u:e.length<16:=by omega
   have h1:e.length<c.length:=by omega
   have h2:e.length<l.length:=by omega
   have r:c[e.length]=n:=by
    have:=fm e n ys (qa Zd)
    rw [<-g,List.getD_eq_getElem?_getD,List.getElem?_eq_getElem h1]at this
    exact this
   have q:l[e.length]=a:=by
    have:=fm lp a f (qa Y68)
    rw [<-h,<-o,List.getD_eq_getElem?_getD,List.getElem?_eq_getElem h2]at this
    exact this
   have j:okD d a:=v a (by rw [h];simp)
   have M:(List.length (α:=Int) a.1:Int)=d:=j.2
   have F:List.length (α:=Int) a.1=d:=by omega
   rw [eK,qg (by omega),qc (by omega),qB h1,r,List.all_cons]
   cases G:inR n 0 400000000 with
   | false=>rfl
   | true=>
   have p:0<=(n:Int)/\(n:Int)<=(400000000:Int):=of_decide_eq_true G
   obtain ⟨J,L⟩:=vL hk u p (fg j.1)
   simp only [Bool.not_true,cond_false]
   have t:=fun A=>PW N k b e.length c l h1 h2 n r a.1 (by rw [q]) A p u (by omega) a.1 s [] [] rfl rfl (by omega) (fH j.1) w N (by omega)
   simp only [List.nil_append,List.length_nil,F]at t
   refine (show _=_ from t _).trans ?_
   rw [qc (by omega),qc (by omega),qc (by omega),qc (by omega),qB h2,q,J]
   rw [PI (x:=fun B=>eK N c d l K m (k+(n:Int)*(a.2.1:Int)) B (IntKind.i64.wrap ((e.length:Int)+1)) (cD n s a.1)),b3 (n:=c.length) (by omega) (by omega)]
   have z:=PX N E d hd c l H v K ys f (e++[n]) (lp++[a]) (by rw [g];simp) (by rw [h];simp) (by simp [o]) I (k+(n:Int)*(a.2.1:Int)) (b||(decide ((0:Int)<n)&&a.2.2)) (cD n s a.1) (by rw [oR (by omega)];exact hs) (by rw [List.length_append];exact L) (by rw [List.length_append];exact DT p w (fH j.1)) m (by simp only [List.length_cons]at hm;omega)
   have C:(((e++[n]).length:Nat):Int)=((e.length+1:Nat):Int):=by simp
   rw [C]at z
   refine (show _=_ from z).trans ?_
   simp only [Bool.true_and]
   have D:k+(n:Int)*(a.2.1:Int)+qQ (fun a=>a.2.1) ys f=k+qQ (fun a=>a.2.1) (n::ys) (a::f):=by
    show _=k+((n:Int)*(a.2.1:Int)+qQ (fun a=>a.2.1) ys f)
    rw [Int.add_assoc]
   have e3:(b||(decide ((0:Int)<n)&&a.2.2)||bq ys f)=(b||bq (n::ys) (a::f)):=by
    show _=(b||((decide ((0:Int)<n)&&a.2.2)||bq ys f))
    rw [Bool.or_assoc]
   rw [D,e3]
   rfl
 | [],_::_,_,_,_,_,_,i,_,_,_,_,_,_,_,_=>by simp at i
 | _::_,[],_,_,_,_,_,i,_,_,_,_,_,_,_,_=>by simp at i
theorem e39 (c:Zj) (m:Zb) (h:dR c m): ∃N,m39 N c m=some (bP c m,()):=⟨20,by
 rw [m39,qc (show b8 c from h.1)]
 cases b:qI c with
 | false=>unfold bP;rw [b];rfl
 | true=>
 obtain ⟨hd,r,j⟩:=bB b
 by_cases hm:(m.length:Int)=(List.length (α:=Zf) c.2:Int)
 ·rw [PK b hm,decide_eq_true hm]
  have e:(((c.1:Int).toNat:Nat):Int)=(c.1:Int):=Int.toNat_of_nonneg hd.1
  have p:(c.1:Int).toNat<=4:=Int.toNat_le.2 hd.2
  simp only [Bool.not_true,cond_false]
  rw [qc ⟨hd.1,Int.le_refl _,Int.le_trans hd.2 (by decide)⟩]
  have t:=fun K=>PX 20 (by omega) (c.1:Int).toNat p m c.2 r (fun a f=>by rw [e];exact j a f) K m c.2 [] [] rfl rfl rfl (by omega) 0 false (List.replicate (c.1:Int).toNat (0:Int)) (by simp) (by simp) (fun y u=>by rw [(List.mem_replicate.1 u).2];simp) 20 (by omega)
  simp only [e,List.length_nil]at t
  refine (show _=_ from t _).trans ?_
  cases m.all (fun x=>inR x 0 400000000)with
  | false=>rfl
  | true=>
    simp only [cond_true,Bool.false_or,Int.zero_add]
    have q: ∀a∈(c.2:Ze),List.length (α:=Int) a.1=(c.1:Int).toNat:=fun a f=>by
      have:(List.length (α:=Int) a.1:Int)=(c.1:Int):=(j a f).2
      rw [<-this];rfl
    have o:(dB (List.replicate (c.1:Int).toNat (0:Int)) m c.2).length=(c.1:Int).toNat:=(vf (d:=(c.1:Int).toNat) m c.2 _ q (by simp)).1
    generalize dB (List.replicate (c.1:Int).toNat (0:Int)) m c.2=V at o ⊢
    have l:(c.1:Int)=((V.length:Nat):Int):=by rw [o];exact e.symm
    refine (bp (xs:=(V:Zb)) (F:=fun n i (_:Unit)=>jb 20 (qQ (fun a=>a.2.1) m c.2) (bq m c.2) (c.1:Int) c.2 V _ n i) (step:=fun _ x _ K=>bif decide ((x:Int)=(0:Int))then K ()else some (false,())) (k:=fun _=>bif decide (0<qQ (fun a=>a.2.1) m c.2)then some (true,())else bif decide (qQ (fun a=>a.2.1) m c.2=0)then some (bq m c.2,())else some (false,())) (by omega) (fun n i s g=>by rw [jb,qg (by rw [l];omega),qc (by omega),qc (by omega),qB g,b4]) (fun n i s g=>by rw [jb,qf (by rw [l];omega)]) _ () (by omega)).trans ((dK V 0).trans ?_)
    cases V.all (fun x=>decide ((x:Int)=0))<;>cases decide (0<qQ (fun a=>a.2.1) m c.2)<;>cases decide (qQ (fun a=>a.2.1) m c.2=0)<;>cases bq m c.2<;>rfl
 ·unfold bP;rw [b,decide_eq_false hm];rfl⟩
theorem s39:Sound Tryz.prog 39 g39:=qo (tt:=tt) (Γ:=Γ39) hT (qe s31 (qe s62 ql)) hm (fn:=Tryz.f39) Tryz.func39 (c:=Tryz.f39.body.getD .skip) (by kernel_rfl) (by kernel_rfl) fun x a=>by
 obtain ⟨N,h⟩:=e39 x.1 x.2.1 a
 exact ⟨T39 N,p39,qp _,qNg N,(qQA N x.1 x.2.1).trans h⟩
def dS (more:Int) (a:Zf):Zf:=((a.1++List.replicate more.toNat (0:Int):List Int),a.2)
def eL (c:Zj) (more:Int):Zj:=(((c.1:Int)+more:Int),c.2.map (dS more))
def pb (c:Zj) (more:Int):Prop:=fM c/\(∀a∈(c.2:Ze),List.length (α:=Int) a.1<=100)/\(0<=more/\more<=4)/\(0<=(c.1:Int)/\(c.1:Int)<=100)
def g83:G:={ps:=[i35,i3],rs:=[i35],dp:=true,pre:=fun x=>pb x.1 x.2.1,fn:=fun x=>(eL x.1 x.2.1,())}
def pc (N:Nat) (e a f g:Int) (c:List (Val (hd Y68))) (b:Ze) (h i:Int) (d:List (Val (hd Y68))) (k9006:(Ze)->ZO [i35]) (_:Nat):ZO [i35]:=chk (0<=a/\a<(d.length:Int)) (chk (a.toNat<d.length) (chk (a.toNat<b.length/\a.toNat<c.length/\((c.getD a.toNat (qa (hd Y68)):Val (hd Y68)).1:Value)=((d.getD a.toNat (qa (hd Y68))).1:Value)/\0<=e/\((b.getD a.toNat (qa Y68)).1:Zb).length+e.toNat<=1048576) (chk (0<=a/\a<(d.length:Int)) (chk (a.toNat<(b.set a.toNat (([]:Zb),(b.getD a.toNat (qa Y68)).2)).length/\(c.set a.toNat ((Value.slice none 0 0),(c.getD a.toNat (qa (hd Y68)):Val (hd Y68)).2)).length=(b.set a.toNat (([]:Zb),(b.getD a.toNat (qa Y68)).2)).length/\qZ Y68 (b.set a.toNat (([]:Zb),(b.getD a.toNat (qa Y68)).2)) (c.set a.toNat ((Value.slice none 0 0),(c.getD a.toNat (qa (hd Y68)):Val (hd Y68)).2))=(c.set a.toNat ((Value.slice none 0 0),(c.getD a.toNat (qa (hd Y68)):Val (hd Y68)).2))/\(c.set a.toNat ((Value.slice none 0 0),(c.getD a.toNat (qa (hd Y68)):Val (hd Y68)).2))=(d.set a.toNat ((Value.slice none 0 0),(d.getD a.toNat (qa (hd Y68)):Val (hd Y68)).2))) (k9006 ((b.set a.toNat (([]:Zb),(b.getD a.toNat (qa Y68)).2)).set a.toNat ((((b.getD a.toNat (qa Y68)).1:Zb)++List.replicate e.toNat (qa Zd)),((b.set a.toNat (([]:Zb),(b.getD a.toNat (qa Y68)).2)).getD a.toNat (qa Y68)).2)))))))
def hJ (N:Nat) (e c f g:Int) (k0:(Ze)->ZO [i35]):Nat->Int->(Ze)->ZO [i35]
 | 0,_,_=>none
 | n+1,b,d=>bif (decide (b<c))then (fA (fun a:List Nat×List (Val (hd Y68))=>eV Y68 a.2 d) (fun a=>pc N e b c b a.2 d f g a.2 (fun (h:Ze)=>hJ N e c f g k0 n (IntKind.i64.wrap (b+(1:Int))) h) N))else (k0 d)
def m83 (N:Nat) (a:Zj) (b:Int):ZO [i35]:=chk (fM a) (hJ N b (((cpC a).2:Ze).length:Int) (0:Int) (IntKind.i64.wrap (((cpC a).1:Int)+b)) (fun (c:Ze)=>some (((IntKind.i64.wrap (((cpC a).1:Int)+b)),c),())) N (0:Int) ((cpC a).2:Ze))
def Γ83:Gam:=[(85,g85)]
theorem q1q:Gam.get Γ83 85=some g85:=rfl
def D0:List Bool:=[O,I,O,O,I,I,I,O,O,O,O,O,O,O,O,O,I,I]
def PY:Nm:=⟨D0,[],false⟩
theorem q2N:NmS PY D0 [] false:=nmS
def vP:List Bool:=[O,I,O,O,I,I,O,O,O,O,O,O,O,O,O,O,I,I]
def D1:Nm:=⟨vP,[],false⟩
theorem PZ:NmS D1 vP [] false:=nmS
def D2:List Bool:=[O,O,O,O,I,I]
def P0:Nm:=⟨D2,[],false⟩
theorem q2M:NmS P0 D2 [] false:=nmS
def D3:List Bool:=[O,I,O,O,I,I,O,O,O,O,O,O,O,O,O,O,I,I]
def P1:Nm:=⟨D3,[],false⟩
theorem qOa:NmS P1 D3 [] false:=nmS
def kG:Sem:=sg tt [(30,0,0,25)] [(32,0)] (dI)
def vQ:Nat->Tree:=fun i=>if i=6 then .sem [10,13] (.quiet 3 (.quiet 4 (.quiet 5 (.quiet 6 (.quiet 7 (.quiet 8 (.quiet 9 (.alt 0 (.alt 1 (.alt 2 (.alt 10 (.quiet 11 (.quiet 12 (.alt 13 .done .stop))) .stop) (.alt 10 (.quiet 2 (.quiet 11 (.quiet 12 (.alt 13 .done .stop)))) .stop)) (.alt 2 (.alt 1 (.alt 10 (.quiet 11 (.quiet 12 (.alt 13 .done .stop))) .stop) (.alt 10 (.quiet 1 (.quiet 11 (.quiet 12 (.alt 13 .done .stop)))) .stop)) (.alt 10 (.quiet 1 (.quiet 2 (.quiet 11 (.quiet 12 (.alt 13 .done .stop))))) .stop))) (.alt 2 (.alt 0 (.alt 1 (.alt 10 (.quiet 11 (.quiet 12 (.alt 13 .done .stop))) .stop) (.alt 10 (.quiet 1 (.quiet 11 (.quiet 12 (.alt 13 .done .stop)))) .stop)) (.alt 10 (.quiet 0 (.quiet 1 (.quiet 11 (.quiet 12 (.alt 13 .done .stop))))) .stop)) (.alt 10 (.quiet 0 (.quiet 1 (.quiet 2 (.quiet 11 (.quiet 12 (.alt 13 .done .stop)))))) .stop))))))))))else .done
def D4:Nat->Nm:=fun i=>if i=4 then D1 else ⟨[],[],false⟩
def jc:Nat->Option Jn:=fun i=>if i=6 then some (.nm PY)else if i=5 then some (.at (some (.opn 2 Y68)) none)else none
def D5:Nat->Option Nm:=fun i=>if i=0 then some P0 else none
def kH:Nat->Option Nm:=fun i=>if i=6 then some P1 else none
theorem p83:qi vQ (Tryz.f83.body.getD .skip)=true:=by kernel_rfl
def T83 (N:Nat):Tab:={tr:=vQ,lp:=D4,ex:=D5,rg:=kH,jn:=jc,fuel:=N,sem:=kG}
theorem qUU (N:Nat):qj Tryz.prog (T83 N):=fun id j t h a=>by
 have h:jc id=_:=h
 unfold jc at h
 repeat' split at h
 all_goals first | (simp at h;done) | (simp only [Option.some.injEq]at h;subst h;simp [Jn.tb]at a;done) | (simp only [Option.some.injEq]at h;subst h;simp only [Jn.tb,Option.some.injEq]at a;subst a;exact hTH)
theorem pd (N:Nat):fC (T83 N) vQ D4 D5 kH jc N false kG:=gf
def P2:Code:=cut [I,I,I,O,I,I,I,I,I,O,I,I] (Tryz.f83.body.getD .skip)
theorem qVU (N:Nat) (F:List Nat) (a g b d:Int) (h:List (Val (hd Y68))) (i:Ze) (e f:Int) (j:List (Val (hd Y68))) {k9006:(Ze)->ZO [i35]} {Q:ZQ [i35]} {c:Code} (m:c=P2) (l: ∀(k:Ze),Q .normal ⟨[u,.one (.int .i64 a),u,u,.one (.ptr 0 0 0),.one (.ptr 1 0 0),u,u,u,u,u,u,u,u,u,u,.one (.int .i64 b),.one (.int .i64 d),u,u,u,u,u,u,u,u,u,u,u,u,u,u,u,u,u],[.box [.int .i64 e,.nils],.box [.int .i64 f,.own 2],.row 68 Y68 k true true 0]⟩=k9006 k):cd tt Γ83 (T83 N) c Q ⟨[u,.one (.int .i64 a),u,u,.one (.ptr 1 0 0),.one (.ptr 2 0 0),.one (.int .i64 g),u,u,u,u,u,u,u,u,u,.one (.int .i64 b),.one (.int .i64 d),u,u,u,u,u,u,u,u,u,u,u,u,u,u,u,u,u],[.nst F Y68 h i,.box [.int .i64 e,.nils],.box [.int .i64 f,.own 3],.row 68 (hd Y68) j true true 0]⟩=pc N a g b d h i e f j k9006 N:=by
 rw [Kd m,pc];unfold P2 Tryz.f83
 simp -implicitDefEqProofs [V3 (id:=6),pd,vQ,kH,kG,ir,qOa,D3,l]
def P3:Code:=cut [I,I,I,O,I,I,I] (Tryz.f83.body.getD .skip)
theorem q26 (N:Nat) (e f b d:Int) {k0:(Ze)->ZO [i35]} {Q:ZQ [i35]} {c:Code} (l:c=P3) (m: ∀st,Q .ret st=qz tt true [i35] [.cell 4 35] st) (k: ∀(j:Ze),Q (.exit 0) ⟨[u,u,u,u,.one (.ptr 0 0 0),.one (.ptr 1 0 0),u,u,u,u,u,u,u,u,u,u,u,u,u,u,u,u,u,u,u,u,u,u,u,u,u,u,u,u,u],[.box [.int .i64 b,.nils],.box [.int .i64 d,.own 2],.row 68 Y68 j true true 0]⟩=k0 j): ∀(n:Nat) (a:Int) (g:Ze),qw (qd tt Γ83 (T83 N) c) false D1 Q n ⟨[u,.one (.int .i64 e),u,u,.one (.ptr 0 0 0),.one (.ptr 1 0 0),u,u,u,u,u,u,u,u,u,u,.one (.int .i64 f),.one (.int .i64 a),u,u,u,u,u,u,u,u,u,u,u,u,u,u,u,u,u],[.box [.int .i64 b,.nils],.box [.int .i64 d,.own 2],.row 68 Y68 g true true 0]⟩=hJ N e f b d k0 n a g:=by
 intro n;induction n with
 | zero=>intros;rfl
 | succ n h=>
   intro a g
   rw [qD,qE l];unfold P3 Tryz.f83
   simp -implicitDefEqProofs [pd,D5,kH,jc,kG,l7 (id:=5),q2N,D0,q2M,D2,k]
   rewrite [hJ]
   try simp only [Bool.cond_not]
   repeat' (first | with_reducible rfl | refine J7 fun _=> ?_ | refine J8 fun o _=> ?_ | refine qYe ?_ ?_ | (refine congrArg some ?_;rfl))
   rewrite [qVU (k9006:=(fun (i:Ze)=>hJ N e f b d k0 n (IntKind.i64.wrap (a+(1:Int))) i)) N _ _ _ _ _ _ _ _ _ _ ?_ ?_]
   ·first | rfl | simp -implicitDefEqProofs [h]
   ·rfl
   ·intro i;simp -implicitDefEqProofs [pd,kH,jc,kG,PZ,vP,h]
theorem qTU (N:Nat) (a:Zj) (b:Int):qd tt Γ83 (T83 N) (Tryz.f83.body.getD .skip) (qk tt true [i35] [.cell 4 35]) (qm [i35,i3] 35 (a,b,()))=m83 N a b:=by
 unfold Tryz.f83
 simp -implicitDefEqProofs [pd,D4,kH,jc,kG,PZ,vP,q1q,g85]
 rewrite [q26 (k0:=(fun (c:Ze)=>some (((IntKind.i64.wrap (((cpC a).1:Int)+b)),c),()))) N _ _ _ _ ?_ ?_ ?_]
 ·rewrite [m83];first | rfl | simp -implicitDefEqProofs []
 ·rfl
 ·intro;simp only [qA,qC,qJ]
 ·intro c;simp -implicitDefEqProofs [pd,kH,jc,kG]
theorem qWx {e:Nat} {t b:Ty} {i:Nat} {vs:List (Val (.pair (.slice e t) b))} {hs:List (Val (hd (.pair (.slice e t) b)))} (a:hs.length=vs.length) (hm:qZ (.pair (.slice e t) b) vs hs=hs) (y:List (Val t)) (u:Value) (dv:Val (.pair (.slice e t) b)) (dh:Val (hd (.pair (.slice e t) b))):
 qZ (.pair (.slice e t) b) (vs.set i (y,(vs.getD i dv).2)) (hs.set i (u,(hs.getD i dh).2))=hs.set i (u,(hs.getD i dh).2):=by
 have:=K5 (e:=e) (t':=t) (f:=0) (i:=i) (u:=u) (y:=y) (dv:=dv) (dh:=dh) a hm
 simpa [bM,q6,Ty.sz] using this
theorem t83 (N:Nat) {more:Int} (hm:0<=more/\more<=4) (g h:Int) (K:Ze->ZO [i35]) {r:qb [i35]} (xs:Ze) (u: ∀a∈xs,List.length (α:=Int) a.1<=100) (o:xs.length<=1048576):
 ∀(k i m:Nat),i+k=xs.length->k<m-> ∀s:Ze,s.length=xs.length->s.drop i=xs.drop i->K (s.take i++(xs.drop i).map (dS more))=some r->
  hJ N more xs.length g h K m i s=some r
 | 0,i,m+1,x,_,s,hs,hd,c=>by
   rw [hJ,qf (by omega)]
   rw [List.take_of_length_le (by omega),List.drop_eq_nil_of_le (by omega),List.map_nil,List.append_nil]at c
   exact c
 | k+1,i,m+1,x,B,s,hs,hd,c=>by
   rw [hJ,qg (by omega)]
   obtain ⟨A,g0⟩:=Jb Y68 s
   refine rS ⟨([],A),g0⟩ fun p f=> ?_
   obtain ⟨F,e⟩:=p
   have f:eV Y68 e s:=f
   have q:=f.1
   have b:i<s.length:=by omega
   have d:i<xs.length:=by omega
   have j:i<e.length:=by omega
   have t:s[i]=xs[i]:=by
    have:=congrArg (fun l=>l[0]?) hd
    simpa [b,d] using this
   have hlen:List.length (α:=Int) s[i].1<=100:=by rw [t];exact u _ (List.getElem_mem d)
   have y:((i:Int)).toNat=i:=Int.toNat_natCast i
   show pc N more (i:Int) (xs.length:Int) (i:Int) e s g h e _ N=_
   rw [pc,y,qc ⟨by omega,by omega⟩,qc j,qc ⟨b,j,rfl,hm.1,by
       rw [show s.getD i (qa Y68)=s[i] by simp [List.getD,b]]
       show List.length (α:=Int) s[i].1+_<=_
       omega⟩,qc ⟨by omega,by omega⟩,qc ⟨by rw [List.length_set];exact b,by rw [List.length_set,List.length_set];exact q,qWx q f.2.1 _ _ _ _,rfl⟩]
   have v: ∀z:Zf,((s.set i z).set i (((s.getD i (qa Y68)).1:Zb)++List.replicate more.toNat (qa Zd),z.2))=s.set i ((s[i].1:List Int)++List.replicate more.toNat (0:Int),z.2):=fun z=>by
    rw [List.set_set]
    simp [List.getD,b,qa]
   have w:(s.set i (([]:Zb),(s.getD i (qa Y68)).2)).getD i (qa Y68)=(([]:Zb),(s.getD i (qa Y68)).2):=K6 b
   have e3:(s.getD i (qa Y68)).2=s[i].2:=by simp [List.getD,b]
   rw [w,v,e3,b3 (n:=xs.length) d o]
   refine t83 N hm g h K xs u o k (i+1) m (by omega) (by omega) _ (by rw [List.length_set];exact hs) ?_ ?_
   ·rw [List.drop_set_of_lt (by omega),<-List.drop_drop,<-List.drop_drop,hd]
   ·have e4:(s.set i ((s[i].1:List Int)++List.replicate more.toNat (0:Int),s[i].2)).take (i+1)=s.take i++[dS more xs[i]]:=by
     rw [<-t,<-List.take_append_getElem (by rw [List.length_set];exact b),List.take_set_of_le (Nat.le_refl _),List.getElem_set_self]
     rfl
    rw [e4,List.append_assoc,List.singleton_append]
    rw [List.drop_eq_getElem_cons d,List.map_cons]at c
    exact c
theorem e83 (c:Zj) (more:Int) (h:pb c more): ∃N,m83 N c more=some (eL c more,()):=⟨List.length (α:=Zf) c.2+1,by
 obtain ⟨d,xs⟩:=c
 change Int at d
 change List (Zf)at xs
 obtain ⟨a,e,hm,hd⟩:=h
 have hd:0<=d/\d<=100:=hd
 have b:xs.length<=1048576:=a.2.1
 rw [m83,qc a]
 show hJ _ more (xs.length:Int) (0:Int) (IntKind.i64.wrap (d+more)) _ _ ((0:Nat):Int) xs=_
 rw [bn (by omega) (by omega)]
 exact t83 _ hm 0 (d+more) _ xs e b xs.length 0 _ (by omega) (Nat.lt_succ_self _) xs rfl rfl (by
  show some ((IntKind.i64.wrap (d+more),List.take 0 xs++(List.drop 0 xs).map (dS more)),())=some (((d+more:Int),xs.map (dS more)),())
  rw [bn (by omega) (by omega),List.take_zero,List.drop_zero,List.nil_append])⟩
theorem s83:Sound Tryz.prog 83 g83:=qo (tt:=tt) (Γ:=Γ83) hT (qe s85 ql) hm (fn:=Tryz.f83) Tryz.func83 (c:=Tryz.f83.body.getD .skip) (by kernel_rfl) (by kernel_rfl) fun x a=>by
 obtain ⟨N,h⟩:=e83 x.1 x.2.1 a
 exact ⟨T83 N,p83,WY hT (qp _),qUU N,(qTU N x.1 x.2.1).trans h⟩
theorem qNP {y:Zj} (h:BS y):hB y=List.any (α:=Zf) y.2 bU:=by
 rcases h with h | h
 ·rw [qRb h,h]
  show true=List.any (α:=Zf) [(List.replicate (y.1:Int).toNat (0:Int),(1:Int),false)] bU
  rw [List.any_cons]
  unfold bU
  rw [uV]
  rfl
 ·rw [qNI h]
  symm
  rw [List.any_eq_false]
  intro a b
  unfold bU
  rw [h a b]
  simp
abbrev P4:ZO [i60,i4]:=some ((false,((0:Int),(0:Int)),false,false,((0:Int),(0:Int)),false,false),false,())
theorem t82 (N:Nat) (d v:Int) (hd:0<=d/\d<=4) (K:Int->Ze->ZO [i60,i4]): ∀(k:Nat) (x:Zj),okN d x->(k:Int)<=d-> ∀n,k<n->
 iU N v false 0 0 false false 0 0 false false K n ((k:Int) - 1) x.1 x.2=match cO v k x with
  | some y=>K y.1 y.2
  | none=>P4
 | 0,x,_,_,n+1,_=>by
   rw [iU,qf (by omega)]
   rfl
 | k+1,x,c,hk,n+1,j=>by
   have e:((k+1:Nat):Int) - 1=(k:Int):=by omega
   have f:IntKind.i64.wrap ((k:Int) - 1)=(k:Int) - 1:=bn (by omega) (by omega)
   rw [e,iU,qg (by omega),f,cO]
   by_cases h:(k:Int)=v
   ·rw [qg h,if_pos h]
    exact t82 N d v hd K k x c (by omega) n (by omega)
   ·rw [qf h,if_neg h]
    obtain ⟨h1,h2,a⟩:=c
    have ex:(((x.1:Int),(x.2:Ze)):Zj)=x:=rfl
    have i:0<=(k:Int)/\(k:Int)<(x.1:Int):=⟨by omega,by rw [a];omega⟩
    have g:ek x k=qW x k:=by unfold ek;rw [h1,decide_eq_true i];rfl
    try rw [ex]
    try rw [g]
    cases hm:(qW x k).2 with
    | false=>rfl
    | true=>
      have b:=kp h1 hm
      rw [a]at b
      exact t82 N d v hd K k (qW x k).1 b (by omega) n (by omega)
theorem t67 (N:Nat) (d v:Int) (hd:0<=d/\d<=4) (K:Int->Ze->ZO [i60,i4]): ∀(k:Nat) (x:Zj),okN d x->(k:Int)<=d-> ∀n,k<n->
 iV N v false 0 0 false false 0 0 false false K n ((k:Int) - 1) x.1 x.2=match cO v k x with
  | some y=>K y.1 y.2
  | none=>P4
 | 0,x,_,_,n+1,_=>by
   rw [iV,qf (by omega)]
   rfl
 | k+1,x,c,hk,n+1,i=>by
   have e:((k+1:Nat):Int) - 1=(k:Int):=by omega
   have f:IntKind.i64.wrap ((k:Int) - 1)=(k:Int) - 1:=bn (by omega) (by omega)
   rw [e,iV,qg (by omega),f,cO]
   by_cases h:(k:Int)=v
   ·rw [qg h,if_pos h]
    exact t67 N d v hd K k x c (by omega) n (by omega)
   ·rw [qf h,if_neg h]
    obtain ⟨h1,h2,a⟩:=c
    have ex:(((x.1:Int),(x.2:Ze)):Zj)=x:=rfl
    have g:0<=(k:Int)/\(k:Int)<(x.1:Int):=⟨by omega,by rw [a];omega⟩
    try rw [ex]
    rw [qc (show mr x k from ⟨h1,g⟩)]
    cases hm:(qW x k).2 with
    | false=>rfl
    | true=>
      have b:=kp h1 hm
      rw [a]at b
      exact t67 N d v hd K k (qW x k).1 b (by omega) n (by omega)
theorem e67 (c:Zj) (v:Int) (h:Cp c v): ∃N,m67 N c v=some ((b9 c v).1,(b9 c v).2,()):=⟨6,by
 rw [m67,qc (show b8 c from h)]
 unfold b9
 cases e:qI c with
 | false=>rfl
 | true=>
 obtain ⟨hd,l,m⟩:=bB e
 obtain ⟨k,d⟩:=iS e
 have j:IntKind.i64.wrap ((c.1:Int) - 1)=(c.1:Int) - 1:=bn (Int.le_sub_right_of_add_le (Int.le_trans (by decide) hd.1)) (Int.le_trans (Int.sub_le_self _ (by decide)) (Int.le_trans hd.2 (by decide)))
 rw [j]
 by_cases a:0<=v/\v<(c.1:Int)
 ·rw [gq (show 0<=v/\v<=(c.1:Int) - 1 from ⟨a.1,Int.le_sub_one_of_lt a.2⟩),decide_eq_true a]
  simp only [Bool.not_true,cond_false,Bool.and_self,cond_true]
  rw [qc (show dy c.1 c.2 from k)]
  have b:(((c.1:Int).toNat:Nat):Int)=(c.1:Int):=Int.toNat_of_nonneg hd.1
  have hk:(c.1:Int).toNat<6:=by have:=hd.2;have:(((c.1:Int).toNat:Nat):Int)<=4:=by rw [b];exact this
                                omega
  have t:=t67 6 c.1 v hd (fun g i=>chk (gC (g,i) v) (some (bX (g,i) v,true,()))) (c.1:Int).toNat (qS c.1 c.2) d (by rw [b];exact Int.le_refl _) 6 hk
  rw [b]at t
  refine (show _=_ from t).trans ?_
  cases hm:cO v (c.1:Int).toNat (qS c.1 c.2)with
  | none=>rfl
  | some y=>
    have f:=mv _ d hm
    exact qc (show gC y v from ⟨f.1,a.1,by rw [f.2.2];exact a.2⟩)
 ·rw [gu (show ¬(0<=v/\v<=(c.1:Int) - 1) from fun h=>a ⟨h.1,Int.lt_of_le_sub_one h.2⟩),decide_eq_false a]
  rfl⟩
theorem s67:Sound Tryz.prog 67 g67:=qo (tt:=tt) (Γ:=Γ67) hT (qe s31 (qe s62 (qe s68 (qe s69 (qe s72 ql))))) hm (fn:=Tryz.f67) Tryz.func67 (c:=Tryz.f67.body.getD .skip) (by kernel_rfl) (by kernel_rfl) fun x a=>by
 obtain ⟨N,h⟩:=e67 x.1 x.2.1 a
 exact ⟨T67 N,p67,qp _,q2n N,(qUz N x.1 x.2.1).trans h⟩
theorem e82 (c:Zj) (v:Int): ∃N,m82 N c v=some ((b9 c v).1,(b9 c v).2,()):=⟨6,by
 rw [m82]
 unfold b9
 cases k:qI c with
 | false=>rfl
 | true=>
 obtain ⟨hd,m,z⟩:=bB k
 obtain ⟨q,j⟩:=iS k
 have n:IntKind.i64.wrap ((c.1:Int) - 1)=(c.1:Int) - 1:=bn (Int.le_sub_right_of_add_le (Int.le_trans (by decide) hd.1)) (Int.le_trans (Int.sub_le_self _ (by decide)) (Int.le_trans hd.2 (by decide)))
 simp only [Bool.not_true,cond_false,Bool.true_and]
 by_cases h1:v<0
 ·rw [qg h1,decide_eq_false (fun h=>absurd h.1 (Int.not_le.2 h1))];rfl
 rw [qf h1]
 by_cases h2:(c.1:Int)<=v
 ·rw [qg h2,decide_eq_false (fun h=>absurd h.2 (Int.not_lt.2 h2))];rfl
 have i:0<=v/\v<(c.1:Int):=⟨Int.not_lt.1 h1,Int.not_le.1 h2⟩
 rw [qf h2,decide_eq_true i,n,qc (show dy c.1 c.2 from q)]
 simp only [cond_true]
 have e:(((c.1:Int).toNat:Nat):Int)=(c.1:Int):=Int.toNat_of_nonneg hd.1
 have hk:(c.1:Int).toNat<6:=by
  have:=hd.2
  have:(((c.1:Int).toNat:Nat):Int)<=4:=by rw [e];exact this
  omega
 have t:=fun K=>t82 6 c.1 v hd K (c.1:Int).toNat (qS c.1 c.2) j (by rw [e];exact Int.le_refl _) 6 hk
 simp only [e]at t
 refine (t _).trans ?_
 cases hm:cO v (c.1:Int).toNat (qS c.1 c.2)with
 | none=>rfl
 | some y=>
   have d:=mv _ j hm
   have x:v<(y.1:Int):=by rw [d.2.2];exact i.2
   dsimp only
   have p:(((y.1:Int),(y.2:Ze)):Zj)=y:=rfl
   try rw [p]
   rw [qc (show oL y from d.1),qc (show hC y v from ⟨d.1,i.1,x⟩),qNP d.2.1]
   unfold bX
   cases List.any (α:=Zf) y.2 bU with
   | true=>rfl
   | false=>
     obtain ⟨_,_,w⟩:=bB d.1
     have f:c6 (qO y v):=oO gD fun a r=>(w a r).1
     generalize qO y v=b at f
     obtain ⟨m,l,lo,s,g,u,em⟩:=b
     have el:(((l.1:Int),(l.2:Int)):Zh)=l:=rfl
     have o:(((g.1:Int),(g.2:Int)):Zh)=g:=rfl
     unfold oM
     dsimp only
     try rw [el]
     try rw [o]
     cases m with
     | false=>rfl
     | true=>
       cases s with
       | false=>rfl
       | true=>
         have rl:qh l=true:=f.1.2 rfl
         have rg:qh g=true:=f.2.2 rfl
         rw [NL rl rg]
         by_cases he:l=g
         ·subst he
          rw [qg ((mz rl rl).2 rfl)]
          cases bD l l<;>cases lo<;>cases u<;>simp [gB]
         ·rw [qf (fun h=>he ((mz rl rg).1 h)),decide_eq_false (fun h=>he h.symm)]
          cases bD g l<;>rfl⟩
theorem s82:Sound Tryz.prog 82 g82:=qo (tt:=tt) (Γ:=Γ82) hT (qe s45 (qe s88 (qe AO (qe Nh (qe q1j (qe Nv ql)))))) hm (fn:=Tryz.f82) Tryz.func82 (c:=Tryz.f82.body.getD .skip) (by kernel_rfl) (by kernel_rfl) fun x a=>by
 obtain ⟨N,h⟩:=e82 x.1 x.2.1
 exact ⟨T82 N,p82,qp _,qY8 N,(qVO N x.1 x.2.1).trans h⟩
end
end Go.T
