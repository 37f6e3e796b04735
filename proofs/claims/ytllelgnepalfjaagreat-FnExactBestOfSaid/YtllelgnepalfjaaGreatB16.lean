import Derived.Test.YtllelgnepalfjaaGreatB10n
set_option linter.unusedSimpArgs false
set_option linter.unusedVariables false
namespace Go.T
noncomputable section
open Go Go.Proofs
set_option maxHeartbeats 4000000
set_option maxRecDepth 100000
def noB:Zk:=(false,((0:Int),(0:Int)),false,false,((0:Int),(0:Int)),false,false)
def gB:Zk:=(false,((0:Int),(0:Int)),false,false,((0:Int),(0:Int)),false,true)
def bO (b:Zk) (a:Zf) (v:Int):Zk:=
 bif decide (0<cfV v a)then (bif !b.2.2.2.1||bD (qF (-(a.2.1:Int)) (cfV v a)) b.2.2.2.2.1||(decide (qF (-(a.2.1:Int)) (cfV v a)=b.2.2.2.2.1)&&a.2.2)then (b.1,b.2.1,b.2.2.1,true,qF (-(a.2.1:Int)) (cfV v a),a.2.2,b.2.2.2.2.2.2)else b)
 else bif decide (cfV v a<0)then (bif !b.1||bD b.2.1 (qF (-(a.2.1:Int)) (cfV v a))||(decide (qF (-(a.2.1:Int)) (cfV v a)=b.2.1)&&a.2.2)then (true,qF (-(a.2.1:Int)) (cfV v a),a.2.2,b.2.2.2)else b)
 else b
def okQ (r:Zh):Prop:=qh r=true∨r=((0:Int),(0:Int))
def c6 (b:Zk):Prop:=(okQ b.2.1/\(b.1=true->qh b.2.1=true))/\(okQ b.2.2.2.2.1/\(b.2.2.2.1=true->qh b.2.2.2.2.1=true))
def uW (b:Zk) (a:Zf) (v:Int):Prop:=c6 b/\okA a/\0<=v/\v<(List.length (α:=Int) a.1:Int)
def uX:G:={ps:=[i60,i68,i3],rs:=[i60],dp:=true,pre:=fun x=>uW x.1 x.2.1 x.2.2.1,fn:=fun x=>(bO x.1 x.2.1 x.2.2.1,())}
def uY (N:Nat) (b:Zk) (a:Zf) (c:Int):ZO [i60]:=chk (0<=c/\c<((a.1:Zb).length:Int)) (bif (decide ((0:Int)<(((a.1:Zb).getD c.toNat (qa Zd)):Int)))then (bif (!(b.2.2.2.1:Bool))then (bif (decide ((((a.1:Zb).getD c.toNat (qa Zd)):Int)<(0:Int)))then (bif (!(b.1:Bool))then (some ((true,(qF (IntKind.i64.wrap (0 - (a.2.1:Int))) (((a.1:Zb).getD c.toNat (qa Zd)):Int)),(a.2.2:Bool),true,(qF (IntKind.i64.wrap (0 - (a.2.1:Int))) (((a.1:Zb).getD c.toNat (qa Zd)):Int)),(a.2.2:Bool),(b.2.2.2.2.2.2:Bool)),()))else (chk (eH b.2.1 (qF (IntKind.i64.wrap (0 - (a.2.1:Int))) (((a.1:Zb).getD c.toNat (qa Zd)):Int))) (bif ((bD b.2.1 (qF (IntKind.i64.wrap (0 - (a.2.1:Int))) (((a.1:Zb).getD c.toNat (qa Zd)):Int))):Bool)then (some ((true,(qF (IntKind.i64.wrap (0 - (a.2.1:Int))) (((a.1:Zb).getD c.toNat (qa Zd)):Int)),(a.2.2:Bool),true,(qF (IntKind.i64.wrap (0 - (a.2.1:Int))) (((a.1:Zb).getD c.toNat (qa Zd)):Int)),(a.2.2:Bool),(b.2.2.2.2.2.2:Bool)),()))else (bif (decide (((qF (IntKind.i64.wrap (0 - (a.2.1:Int))) (((a.1:Zb).getD c.toNat (qa Zd)):Int)).1:Int)=(b.2.1.1:Int))&&decide (((qF (IntKind.i64.wrap (0 - (a.2.1:Int))) (((a.1:Zb).getD c.toNat (qa Zd)):Int)).2:Int)=(b.2.1.2:Int)))then (bif (a.2.2:Bool)then (some ((true,(qF (IntKind.i64.wrap (0 - (a.2.1:Int))) (((a.1:Zb).getD c.toNat (qa Zd)):Int)),(a.2.2:Bool),true,(qF (IntKind.i64.wrap (0 - (a.2.1:Int))) (((a.1:Zb).getD c.toNat (qa Zd)):Int)),(a.2.2:Bool),(b.2.2.2.2.2.2:Bool)),()))else (some (((b.1:Bool),b.2.1,(b.2.2.1:Bool),true,(qF (IntKind.i64.wrap (0 - (a.2.1:Int))) (((a.1:Zb).getD c.toNat (qa Zd)):Int)),(a.2.2:Bool),(b.2.2.2.2.2.2:Bool)),())))else (some (((b.1:Bool),b.2.1,(b.2.2.1:Bool),true,(qF (IntKind.i64.wrap (0 - (a.2.1:Int))) (((a.1:Zb).getD c.toNat (qa Zd)):Int)),(a.2.2:Bool),(b.2.2.2.2.2.2:Bool)),()))))))else (some (((b.1:Bool),b.2.1,(b.2.2.1:Bool),true,(qF (IntKind.i64.wrap (0 - (a.2.1:Int))) (((a.1:Zb).getD c.toNat (qa Zd)):Int)),(a.2.2:Bool),(b.2.2.2.2.2.2:Bool)),())))else (chk (eH (qF (IntKind.i64.wrap (0 - (a.2.1:Int))) (((a.1:Zb).getD c.toNat (qa Zd)):Int)) b.2.2.2.2.1) (bif ((bD (qF (IntKind.i64.wrap (0 - (a.2.1:Int))) (((a.1:Zb).getD c.toNat (qa Zd)):Int)) b.2.2.2.2.1):Bool)then (bif (decide ((((a.1:Zb).getD c.toNat (qa Zd)):Int)<(0:Int)))then (bif (!(b.1:Bool))then (some ((true,(qF (IntKind.i64.wrap (0 - (a.2.1:Int))) (((a.1:Zb).getD c.toNat (qa Zd)):Int)),(a.2.2:Bool),true,(qF (IntKind.i64.wrap (0 - (a.2.1:Int))) (((a.1:Zb).getD c.toNat (qa Zd)):Int)),(a.2.2:Bool),(b.2.2.2.2.2.2:Bool)),()))else (chk (eH b.2.1 (qF (IntKind.i64.wrap (0 - (a.2.1:Int))) (((a.1:Zb).getD c.toNat (qa Zd)):Int))) (bif ((bD b.2.1 (qF (IntKind.i64.wrap (0 - (a.2.1:Int))) (((a.1:Zb).getD c.toNat (qa Zd)):Int))):Bool)then (some ((true,(qF (IntKind.i64.wrap (0 - (a.2.1:Int))) (((a.1:Zb).getD c.toNat (qa Zd)):Int)),(a.2.2:Bool),true,(qF (IntKind.i64.wrap (0 - (a.2.1:Int))) (((a.1:Zb).getD c.toNat (qa Zd)):Int)),(a.2.2:Bool),(b.2.2.2.2.2.2:Bool)),()))else (bif (decide (((qF (IntKind.i64.wrap (0 - (a.2.1:Int))) (((a.1:Zb).getD c.toNat (qa Zd)):Int)).1:Int)=(b.2.1.1:Int))&&decide (((qF (IntKind.i64.wrap (0 - (a.2.1:Int))) (((a.1:Zb).getD c.toNat (qa Zd)):Int)).2:Int)=(b.2.1.2:Int)))then (bif (a.2.2:Bool)then (some ((true,(qF (IntKind.i64.wrap (0 - (a.2.1:Int))) (((a.1:Zb).getD c.toNat (qa Zd)):Int)),(a.2.2:Bool),true,(qF (IntKind.i64.wrap (0 - (a.2.1:Int))) (((a.1:Zb).getD c.toNat (qa Zd)):Int)),(a.2.2:Bool),(b.2.2.2.2.2.2:Bool)),()))else (some (((b.1:Bool),b.2.1,(b.2.2.1:Bool),true,(qF (IntKind.i64.wrap (0 - (a.2.1:Int))) (((a.1:Zb).getD c.toNat (qa Zd)):Int)),(a.2.2:Bool),(b.2.2.2.2.2.2:Bool)),())))else (some (((b.1:Bool),b.2.1,(b.2.2.1:Bool),true,(qF (IntKind.i64.wrap (0 - (a.2.1:Int))) (((a.1:Zb).getD c.toNat (qa Zd)):Int)),(a.2.2:Bool),(b.2.2.2.2.2.2:Bool)),()))))))else (some (((b.1:Bool),b.2.1,(b.2.2.1:Bool),true,(qF (IntKind.i64.wrap (0 - (a.2.1:Int))) (((a.1:Zb).getD c.toNat (qa Zd)):Int)),(a.2.2:Bool),(b.2.2.2.2.2.2:Bool)),())))else (bif (decide (((qF (IntKind.i64.wrap (0 - (a.2.1:Int))) (((a.1:Zb).getD c.toNat (qa Zd)):Int)).1:Int)=(b.2.2.2.2.1.1:Int))&&decide (((qF (IntKind.i64.wrap (0 - (a.2.1:Int))) (((a.1:Zb).getD c.toNat (qa Zd)):Int)).2:Int)=(b.2.2.2.2.1.2:Int)))then (bif (a.2.2:Bool)then (bif (decide ((((a.1:Zb).getD c.toNat (qa Zd)):Int)<(0:Int)))then (bif (!(b.1:Bool))then (some ((true,(qF (IntKind.i64.wrap (0 - (a.2.1:Int))) (((a.1:Zb).getD c.toNat (qa Zd)):Int)),(a.2.2:Bool),true,(qF (IntKind.i64.wrap (0 - (a.2.1:Int))) (((a.1:Zb).getD c.toNat (qa Zd)):Int)),(a.2.2:Bool),(b.2.2.2.2.2.2:Bool)),()))else (chk (eH b.2.1 (qF (IntKind.i64.wrap (0 - (a.2.1:Int))) (((a.1:Zb).getD c.toNat (qa Zd)):Int))) (bif ((bD b.2.1 (qF (IntKind.i64.wrap (0 - (a.2.1:Int))) (((a.1:Zb).getD c.toNat (qa Zd)):Int))):Bool)then (some ((true,(qF (IntKind.i64.wrap (0 - (a.2.1:Int))) (((a.1:Zb).getD c.toNat (qa Zd)):Int)),(a.2.2:Bool),true,(qF (IntKind.i64.wrap (0 - (a.2.1:Int))) (((a.1:Zb).getD c.toNat (qa Zd)):Int)),(a.2.2:Bool),(b.2.2.2.2.2.2:Bool)),()))else (bif (decide (((qF (IntKind.i64.wrap (0 - (a.2.1:Int))) (((a.1:Zb).getD c.toNat (qa Zd)):Int)).1:Int)=(b.2.1.1:Int))&&decide (((qF (IntKind.i64.wrap (0 - (a.2.1:Int))) (((a.1:Zb).getD c.toNat (qa Zd)):Int)).2:Int)=(b.2.1.2:Int)))then (bif (a.2.2:Bool)then (some ((true,(qF (IntKind.i64.wrap (0 - (a.2.1:Int))) (((a.1:Zb).getD c.toNat (qa Zd)):Int)),(a.2.2:Bool),true,(qF (IntKind.i64.wrap (0 - (a.2.1:Int))) (((a.1:Zb).getD c.toNat (qa Zd)):Int)),(a.2.2:Bool),(b.2.2.2.2.2.2:Bool)),()))else (some (((b.1:Bool),b.2.1,(b.2.2.1:Bool),true,(qF (IntKind.i64.wrap (0 - (a.2.1:Int))) (((a.1:Zb).getD c.toNat (qa Zd)):Int)),(a.2.2:Bool),(b.2.2.2.2.2.2:Bool)),())))else (some (((b.1:Bool),b.2.1,(b.2.2.1:Bool),true,(qF (IntKind.i64.wrap (0 - (a.2.1:Int))) (((a.1:Zb).getD c.toNat (qa Zd)):Int)),(a.2.2:Bool),(b.2.2.2.2.2.2:Bool)),()))))))else (some (((b.1:Bool),b.2.1,(b.2.2.1:Bool),true,(qF (IntKind.i64.wrap (0 - (a.2.1:Int))) (((a.1:Zb).getD c.toNat (qa Zd)):Int)),(a.2.2:Bool),(b.2.2.2.2.2.2:Bool)),())))else (bif (decide ((((a.1:Zb).getD c.toNat (qa Zd)):Int)<(0:Int)))then (bif (!(b.1:Bool))then (some ((true,(qF (IntKind.i64.wrap (0 - (a.2.1:Int))) (((a.1:Zb).getD c.toNat (qa Zd)):Int)),(a.2.2:Bool),(b.2.2.2.1:Bool),b.2.2.2.2.1,(b.2.2.2.2.2.1:Bool),(b.2.2.2.2.2.2:Bool)),()))else (chk (eH b.2.1 (qF (IntKind.i64.wrap (0 - (a.2.1:Int))) (((a.1:Zb).getD c.toNat (qa Zd)):Int))) (bif ((bD b.2.1 (qF (IntKind.i64.wrap (0 - (a.2.1:Int))) (((a.1:Zb).getD c.toNat (qa Zd)):Int))):Bool)then (some ((true,(qF (IntKind.i64.wrap (0 - (a.2.1:Int))) (((a.1:Zb).getD c.toNat (qa Zd)):Int)),(a.2.2:Bool),(b.2.2.2.1:Bool),b.2.2.2.2.1,(b.2.2.2.2.2.1:Bool),(b.2.2.2.2.2.2:Bool)),()))else (bif (decide (((qF (IntKind.i64.wrap (0 - (a.2.1:Int))) (((a.1:Zb).getD c.toNat (qa Zd)):Int)).1:Int)=(b.2.1.1:Int))&&decide (((qF (IntKind.i64.wrap (0 - (a.2.1:Int))) (((a.1:Zb).getD c.toNat (qa Zd)):Int)).2:Int)=(b.2.1.2:Int)))then (bif (a.2.2:Bool)then (some ((true,(qF (IntKind.i64.wrap (0 - (a.2.1:Int))) (((a.1:Zb).getD c.toNat (qa Zd)):Int)),(a.2.2:Bool),(b.2.2.2.1:Bool),b.2.2.2.2.1,(b.2.2.2.2.2.1:Bool),(b.2.2.2.2.2.2:Bool)),()))else (some (b,())))else (some (b,()))))))else (some (b,()))))else (bif (decide ((((a.1:Zb).getD c.toNat (qa Zd)):Int)<(0:Int)))then (bif (!(b.1:Bool))then (some ((true,(qF (IntKind.i64.wrap (0 - (a.2.1:Int))) (((a.1:Zb).getD c.toNat (qa Zd)):Int)),(a.2.2:Bool),(b.2.2.2.1:Bool),b.2.2.2.2.1,(b.2.2.2.2.2.1:Bool),(b.2.2.2.2.2.2:Bool)),()))else (chk (eH b.2.1 (qF (IntKind.i64.wrap (0 - (a.2.1:Int))) (((a.1:Zb).getD c.toNat (qa Zd)):Int))) (bif ((bD b.2.1 (qF (IntKind.i64.wrap (0 - (a.2.1:Int))) (((a.1:Zb).getD c.toNat (qa Zd)):Int))):Bool)then (some ((true,(qF (IntKind.i64.wrap (0 - (a.2.1:Int))) (((a.1:Zb).getD c.toNat (qa Zd)):Int)),(a.2.2:Bool),(b.2.2.2.1:Bool),b.2.2.2.2.1,(b.2.2.2.2.2.1:Bool),(b.2.2.2.2.2.2:Bool)),()))else (bif (decide (((qF (IntKind.i64.wrap (0 - (a.2.1:Int))) (((a.1:Zb).getD c.toNat (qa Zd)):Int)).1:Int)=(b.2.1.1:Int))&&decide (((qF (IntKind.i64.wrap (0 - (a.2.1:Int))) (((a.1:Zb).getD c.toNat (qa Zd)):Int)).2:Int)=(b.2.1.2:Int)))then (bif (a.2.2:Bool)then (some ((true,(qF (IntKind.i64.wrap (0 - (a.2.1:Int))) (((a.1:Zb).getD c.toNat (qa Zd)):Int)),(a.2.2:Bool),(b.2.2.2.1:Bool),b.2.2.2.2.1,(b.2.2.2.2.2.1:Bool),(b.2.2.2.2.2.2:Bool)),()))else (some (b,())))else (some (b,()))))))else (some (b,())))))))else (bif (decide ((((a.1:Zb).getD c.toNat (qa Zd)):Int)<(0:Int)))then (bif (!(b.1:Bool))then (some ((true,(qF (IntKind.i64.wrap (0 - (a.2.1:Int))) (((a.1:Zb).getD c.toNat (qa Zd)):Int)),(a.2.2:Bool),(b.2.2.2.1:Bool),b.2.2.2.2.1,(b.2.2.2.2.2.1:Bool),(b.2.2.2.2.2.2:Bool)),()))else (chk (eH b.2.1 (qF (IntKind.i64.wrap (0 - (a.2.1:Int))) (((a.1:Zb).getD c.toNat (qa Zd)):Int))) (bif ((bD b.2.1 (qF (IntKind.i64.wrap (0 - (a.2.1:Int))) (((a.1:Zb).getD c.toNat (qa Zd)):Int))):Bool)then (some ((true,(qF (IntKind.i64.wrap (0 - (a.2.1:Int))) (((a.1:Zb).getD c.toNat (qa Zd)):Int)),(a.2.2:Bool),(b.2.2.2.1:Bool),b.2.2.2.2.1,(b.2.2.2.2.2.1:Bool),(b.2.2.2.2.2.2:Bool)),()))else (bif (decide (((qF (IntKind.i64.wrap (0 - (a.2.1:Int))) (((a.1:Zb).getD c.toNat (qa Zd)):Int)).1:Int)=(b.2.1.1:Int))&&decide (((qF (IntKind.i64.wrap (0 - (a.2.1:Int))) (((a.1:Zb).getD c.toNat (qa Zd)):Int)).2:Int)=(b.2.1.2:Int)))then (bif (a.2.2:Bool)then (some ((true,(qF (IntKind.i64.wrap (0 - (a.2.1:Int))) (((a.1:Zb).getD c.toNat (qa Zd)):Int)),(a.2.2:Bool),(b.2.2.2.1:Bool),b.2.2.2.2.1,(b.2.2.2.2.2.1:Bool),(b.2.2.2.2.2.2:Bool)),()))else (some (b,())))else (some (b,()))))))else (some (b,()))))
def uZ:Gam:=[(106,kt),(122,uJ)]
theorem qYS:Gam.get uZ 106=some kt/\Gam.get uZ 122=some uJ:=⟨rfl,rfl⟩
theorem qOh:qi tr0 (Tryz.f105.body.getD .skip)=true:=by kernel_rfl
def u0 (N:Nat):Tab:={tr:=tr0,lp:=lp0,ex:=ex0,rg:=rg0,jn:=jn0,fuel:=N}
theorem q00 (N:Nat):qj Tryz.prog (u0 N):=qn fun _=>rfl
theorem qP3 (N:Nat):qr (u0 N) tr0 lp0 ex0 rg0 jn0 N false:=qt
theorem qM8 (N:Nat) (a:Zk) (b:Zf) (c:Int):qd tt uZ (u0 N) (Tryz.f105.body.getD .skip) (qk tt true [i60] [.cell 6 60]) (qm [i60,i68,i3] 78 (a,b,c,()))=uY N a b c:=by
 rw [uY];unfold Tryz.f105
 simp (maxSteps:=10000000) -implicitDefEqProofs [qP3,qYS,kt,uJ]
 try rfl
def oM (b:Zk):Zk:=bif b.1&&b.2.2.2.1&&(bD b.2.2.2.2.1 b.2.1||(decide (b.2.2.2.2.1=b.2.1)&&(b.2.2.1||b.2.2.2.2.2.1)))then gB else b
def qO (c:Zj) (v:Int):Zk:=List.foldl (fun (b:Zk) (a:Zf)=>bO b a v) noB (c.2:Ze)
def bX (c:Zj) (v:Int):Zk:=bif List.any (α:=Zf) c.2 bU then gB else oM (qO c v)
def gC (c:Zj) (v:Int):Prop:=qI c=true/\0<=v/\v<(c.1:Int)
def hC (c:Zj) (v:Int):Prop:=qI c=true/\0<=v/\v<(c.1:Int)
def g72:G:={ps:=[i35,i3],rs:=[i60],dp:=true,pre:=fun x=>gC x.1 x.2.1,fn:=fun x=>(bX x.1 x.2.1,())}
def iT (N:Nat) (h s:Int) (b:Ze) (t:Bool) (u v:Int) (w m:Bool) (o p:Int) (q r:Bool) (k0:Bool->Int->Int->Bool->Bool->Int->Int->Bool->Bool->ZO [i60]):Nat->Int->Bool->Int->Int->Bool->Bool->Int->Int->Bool->Bool->ZO [i60]
 | 0,_,_,_,_,_,_,_,_,_,_=>none
 | n+1,a,c,d,e,f,g,i,j,k,l=>bif (decide (a<(b.length:Int)))then (chk (0<=a/\a<(b.length:Int)) (chk (mn (b.getD a.toNat (qa Y68))) (bif ((ej (b.getD a.toNat (qa Y68))):Bool)then (chk (0<=a/\a<(b.length:Int)) (bif (!((gn (b.getD a.toNat (qa Y68))):Bool))then (some ((false,((0:Int),(0:Int)),false,false,((0:Int),(0:Int)),false,true),()))else (iT N h s b t u v w m o p q r k0 n (IntKind.i64.wrap (a+(1:Int))) c d e f g i j k l)))else (chk (0<=a/\a<(b.length:Int)) (chk (uW (c,(d,e),f,g,(i,j),k,l) (b.getD a.toNat (qa Y68)) h) (iT N h s b t u v w m o p q r k0 n (IntKind.i64.wrap (a+(1:Int))) ((bO (c,(d,e),f,g,(i,j),k,l) (b.getD a.toNat (qa Y68)) h).1:Bool) ((((bO (c,(d,e),f,g,(i,j),k,l) (b.getD a.toNat (qa Y68)) h).2).1).1:Int) ((((bO (c,(d,e),f,g,(i,j),k,l) (b.getD a.toNat (qa Y68)) h).2).1).2:Int) ((((bO (c,(d,e),f,g,(i,j),k,l) (b.getD a.toNat (qa Y68)) h).2).2).1:Bool) (((((bO (c,(d,e),f,g,(i,j),k,l) (b.getD a.toNat (qa Y68)) h).2).2).2).1:Bool) (((((((bO (c,(d,e),f,g,(i,j),k,l) (b.getD a.toNat (qa Y68)) h).2).2).2).2).1).1:Int) (((((((bO (c,(d,e),f,g,(i,j),k,l) (b.getD a.toNat (qa Y68)) h).2).2).2).2).1).2:Int) (((((((bO (c,(d,e),f,g,(i,j),k,l) (b.getD a.toNat (qa Y68)) h).2).2).2).2).2).1:Bool) (((((((bO (c,(d,e),f,g,(i,j),k,l) (b.getD a.toNat (qa Y68)) h).2).2).2).2).2).2:Bool)))))))else (k0 c d e f g i j k l)
def m72 (N:Nat) (j:Zj) (k:Int):ZO [i60]:=iT N k (j.1:Int) (j.2:Ze) false (0 0:Int) false false (0 0:Int) false false (fun (e:Bool) (a b:Int) (f g:Bool) (c d:Int) (h i:Bool)=>bif e then (bif g then (chk (eH (c,d) (a,b)) (bif ((bD (c,d) (a,b)):Bool)then (some ((false,((0:Int),(0:Int)),false,false,((0:Int),(0:Int)),false,true),()))else (bif (decide (c=a)&&decide (d=b))then (bif f then (some ((false,((0:Int),(0:Int)),false,false,((0:Int),(0:Int)),false,true),()))else (bif h then (some ((false,((0:Int),(0:Int)),false,false,((0:Int),(0:Int)),false,true),()))else (some ((e,(a,b),f,g,(c,d),h,i),()))))else (some ((e,(a,b),f,g,(c,d),h,i),())))))else (some ((e,(a,b),f,g,(c,d),h,i),())))else (some ((e,(a,b),f,g,(c,d),h,i),()))) N (0:Int) false (0 0:Int) false false (0 0:Int) false false
def Γ72:Gam:=[(100,ke),(101,kg),(105,uX),(106,kt)]
theorem Ny:Gam.get Γ72 100=some ke/\Gam.get Γ72 101=some kg/\Gam.get Γ72 105=some uX/\Gam.get Γ72 106=some kt:=⟨rfl,rfl,rfl,rfl⟩
def u1:List Bool:=[O,I,I,O,I,I,I]
def Ca:Nm:=⟨u1,[],false⟩
theorem Nz:NmS Ca u1 [] false:=nmS
def Cb:List Bool:=[O,O,O,O,I,I]
def NA:Nm:=⟨Cb,[],false⟩
theorem q0o:NmS NA Cb [] false:=nmS
def u2:Nat->Tree:=fun i=>if i=8 then .quiet 0 (.quiet 1 (.quiet 2 (.quiet 3 (.quiet 4 (.quiet 5 (.quiet 6 (.alt 7 (.alt 8 .done .stop) .stop)))))))else .done
def Cc:Nat->Nm:=fun i=>if i=3 then Ca else ⟨[],[],false⟩
def Cd:Nat->Option Nm:=fun i=>if i=0 then some NA else none
theorem p72:qi u2 (Tryz.f72.body.getD .skip)=true:=by kernel_rfl
def T72 (N:Nat):Tab:={tr:=u2,lp:=Cc,ex:=Cd,rg:=rg0,jn:=jn0,fuel:=N}
theorem qTJ (N:Nat):qj Tryz.prog (T72 N):=qn fun _=>rfl
theorem Ce (N:Nat):qr (T72 N) u2 Cc Cd rg0 jn0 N false:=qt
def NB:Code:=cut [I,I,O,I,I,I] (Tryz.f72.body.getD .skip)
theorem q1X (N:Nat) (w G:Int) (H:Ze) (r:Bool) (s t:Int) (v a:Bool) (b d:Int) (e f:Bool) {k0:Bool->Int->Int->Bool->Bool->Int->Int->Bool->Bool->ZO [i60]} {Q:ZQ [i60]} {c:Code} (J:c=NB) (K: ∀st,Q .ret st=qz tt true [i60] [.cell 4 60] st) (I: ∀(x:Bool) (y z:Int) (A B:Bool) (C D:Int) (E F:Bool),Q (.exit 0) ⟨[u,u,u,u,.one (.ptr 0 0 0),.one (.ptr 1 0 0),u,u,u,u,u,u,u,u,u,u,u,u,u,u,u,u,u,u,u,u,u,u,u,u,u,u,u,u,u,u,u,u,u,u,u,u,u,u,u,u,u,u,u,u,u,u,u,u,u,u,u,u,u,u,u,u,u,u,u,u,u],[.box [.bool r,.int .i64 s,.int .i64 t,.bool v,.bool a,.int .i64 b,.int .i64 d,.bool e,.bool f],.box [.bool x,.int .i64 y,.int .i64 z,.bool A,.bool B,.int .i64 C,.int .i64 D,.bool E,.bool F]]⟩=k0 x y z A B C D E F): ∀(n:Nat) (q:Int) (g:Bool) (h i:Int) (j k:Bool) (l m:Int) (o p:Bool),qw (qd tt Γ72 (T72 N) c) false Ca Q n ⟨[u,.one (.int .i64 w),.one (.ptr 0 0 0),u,.one (.ptr 1 0 0),.one (.ptr 2 0 0),.one (.int .i64 q),u,u,u,u,u,u,u,u,u,u,u,u,u,u,u,u,u,u,u,u,u,u,u,u,u,u,u,u,u,u,u,u,u,u,u,u,u,u,u,u,u,u,u,u,u,u,u,u,u,u,u,u,u,u,u,u,u,u,u,u],[.box [.int .i64 G,.sl 68 Y68 H 3],.box [.bool r,.int .i64 s,.int .i64 t,.bool v,.bool a,.int .i64 b,.int .i64 d,.bool e,.bool f],.box [.bool g,.int .i64 h,.int .i64 i,.bool j,.bool k,.int .i64 l,.int .i64 m,.bool o,.bool p]]⟩=iT N w G H r s t v a b d e f k0 n q g h i j k l m o p:=by
 intro n;induction n with
 | zero=>intros;rfl
 | succ n L=>
   intro q g h i j k l m o p
   rw [qD,qE J,iT];unfold NB Tryz.f72
   simp -implicitDefEqProofs [Ce,u2,Cd,Nz,u1,q0o,Cb,Ny,ke,kg,uX,K,I,L]
theorem qQ2 (N:Nat) (a:Zj) (b:Int):qd tt Γ72 (T72 N) (Tryz.f72.body.getD .skip) (qk tt true [i60] [.cell 4 60]) (qm [i35,i3] 67 (a,b,()))=m72 N a b:=by
 unfold Tryz.f72
 simp -implicitDefEqProofs [Ce,Cc,Nz,u1]
 rewrite [q1X N _ _ _ _ _ _ _ _ _ _ _ _ ?_ ?_ ?_]
 ·rewrite [m72];first | rfl | simp -implicitDefEqProofs []
 ·rfl
 ·intro;simp only [qA,qC,qJ]
 ·intro c d e f g h i j k;simp -implicitDefEqProofs [Ce,Ny,kt]
def g88:G:={ps:=[i35,i3],rs:=[i60],dp:=true,pre:=fun x=>hC x.1 x.2.1,fn:=fun x=>(qO x.1 x.2.1,())}
def dq (N:Nat) (c:Int) (b:Ze) (d:Int) (p:Bool) (q r:Int) (s e:Bool) (f g:Int) (h i o:Bool) (k0:Bool->Int->Int->Bool->Bool->Int->Int->Bool->ZO [i60]):Nat->Int->Bool->Int->Int->Bool->Bool->Int->Int->Bool->ZO [i60]
 | 0,_,_,_,_,_,_,_,_,_=>none
 | n+1,a,t,j,k,v,u,l,m,w=>bif (decide (a<d))then (chk (0<=a/\a<(b.length:Int)) (chk (0<=c/\c<(((b.getD a.toNat (qa Y68)).1:Zb).length:Int)) (bif (decide (((((b.getD a.toNat (qa Y68)).1:Zb).getD c.toNat (qa Zd)):Int)=(0:Int)))then (dq N c b d p q r s e f g h i o k0 n (IntKind.i64.wrap (a+(1:Int))) t j k v u l m w)else (chk (dn (IntKind.i64.wrap (0 - (((b.getD a.toNat (qa Y68)).2).1:Int))) ((((b.getD a.toNat (qa Y68)).1:Zb).getD c.toNat (qa Zd)):Int)) (bif (decide ((0:Int)<((((b.getD a.toNat (qa Y68)).1:Zb).getD c.toNat (qa Zd)):Int)))then (bif (!u)then (dq N c b d p q r s e f g h i o k0 n (IntKind.i64.wrap (a+(1:Int))) t j k v true ((qT (IntKind.i64.wrap (0 - (((b.getD a.toNat (qa Y68)).2).1:Int))) ((((b.getD a.toNat (qa Y68)).1:Zb).getD c.toNat (qa Zd)):Int)).1:Int) ((qT (IntKind.i64.wrap (0 - (((b.getD a.toNat (qa Y68)).2).1:Int))) ((((b.getD a.toNat (qa Y68)).1:Zb).getD c.toNat (qa Zd)):Int)).2:Int) (((b.getD a.toNat (qa Y68)).2).2:Bool))else (bif (decide (((cC (qT (IntKind.i64.wrap (0 - (((b.getD a.toNat (qa Y68)).2).1:Int))) ((((b.getD a.toNat (qa Y68)).1:Zb).getD c.toNat (qa Zd)):Int)) (l,m)):Int)<(0:Int)))then (dq N c b d p q r s e f g h i o k0 n (IntKind.i64.wrap (a+(1:Int))) t j k v true ((qT (IntKind.i64.wrap (0 - (((b.getD a.toNat (qa Y68)).2).1:Int))) ((((b.getD a.toNat (qa Y68)).1:Zb).getD c.toNat (qa Zd)):Int)).1:Int) ((qT (IntKind.i64.wrap (0 - (((b.getD a.toNat (qa Y68)).2).1:Int))) ((((b.getD a.toNat (qa Y68)).1:Zb).getD c.toNat (qa Zd)):Int)).2:Int) (((b.getD a.toNat (qa Y68)).2).2:Bool))else (bif (decide (((cC (qT (IntKind.i64.wrap (0 - (((b.getD a.toNat (qa Y68)).2).1:Int))) ((((b.getD a.toNat (qa Y68)).1:Zb).getD c.toNat (qa Zd)):Int)) (l,m)):Int)=(0:Int)))then (bif (((b.getD a.toNat (qa Y68)).2).2:Bool)then (dq N c b d p q r s e f g h i o k0 n (IntKind.i64.wrap (a+(1:Int))) t j k v true ((qT (IntKind.i64.wrap (0 - (((b.getD a.toNat (qa Y68)).2).1:Int))) ((((b.getD a.toNat (qa Y68)).1:Zb).getD c.toNat (qa Zd)):Int)).1:Int) ((qT (IntKind.i64.wrap (0 - (((b.getD a.toNat (qa Y68)).2).1:Int))) ((((b.getD a.toNat (qa Y68)).1:Zb).getD c.toNat (qa Zd)):Int)).2:Int) (((b.getD a.toNat (qa Y68)).2).2:Bool))else (dq N c b d p q r s e f g h i o k0 n (IntKind.i64.wrap (a+(1:Int))) t j k v u l m w))else (dq N c b d p q r s e f g h i o k0 n (IntKind.i64.wrap (a+(1:Int))) t j k v u l m w))))else (bif (!t)then (dq N c b d p q r s e f g h i o k0 n (IntKind.i64.wrap (a+(1:Int))) true ((qT (IntKind.i64.wrap (0 - (((b.getD a.toNat (qa Y68)).2).1:Int))) ((((b.getD a.toNat (qa Y68)).1:Zb).getD c.toNat (qa Zd)):Int)).1:Int) ((qT (IntKind.i64.wrap (0 - (((b.getD a.toNat (qa Y68)).2).1:Int))) ((((b.getD a.toNat (qa Y68)).1:Zb).getD c.toNat (qa Zd)):Int)).2:Int) (((b.getD a.toNat (qa Y68)).2).2:Bool) u l m w)else (bif (decide ((0:Int)<((cC (qT (IntKind.i64.wrap (0 - (((b.getD a.toNat (qa Y68)).2).1:Int))) ((((b.getD a.toNat (qa Y68)).1:Zb).getD c.toNat (qa Zd)):Int)) (j,k)):Int)))then (dq N c b d p q r s e f g h i o k0 n (IntKind.i64.wrap (a+(1:Int))) true ((qT (IntKind.i64.wrap (0 - (((b.getD a.toNat (qa Y68)).2).1:Int))) ((((b.getD a.toNat (qa Y68)).1:Zb).getD c.toNat (qa Zd)):Int)).1:Int) ((qT (IntKind.i64.wrap (0 - (((b.getD a.toNat (qa Y68)).2).1:Int))) ((((b.getD a.toNat (qa Y68)).1:Zb).getD c.toNat (qa Zd)):Int)).2:Int) (((b.getD a.toNat (qa Y68)).2).2:Bool) u l m w)else (bif (decide (((cC (qT (IntKind.i64.wrap (0 - (((b.getD a.toNat (qa Y68)).2).1:Int))) ((((b.getD a.toNat (qa Y68)).1:Zb).getD c.toNat (qa Zd)):Int)) (j,k)):Int)=(0:Int)))then (bif (((b.getD a.toNat (qa Y68)).2).2:Bool)then (dq N c b d p q r s e f g h i o k0 n (IntKind.i64.wrap (a+(1:Int))) true ((qT (IntKind.i64.wrap (0 - (((b.getD a.toNat (qa Y68)).2).1:Int))) ((((b.getD a.toNat (qa Y68)).1:Zb).getD c.toNat (qa Zd)):Int)).1:Int) ((qT (IntKind.i64.wrap (0 - (((b.getD a.toNat (qa Y68)).2).1:Int))) ((((b.getD a.toNat (qa Y68)).1:Zb).getD c.toNat (qa Zd)):Int)).2:Int) (((b.getD a.toNat (qa Y68)).2).2:Bool) u l m w)else (dq N c b d p q r s e f g h i o k0 n (IntKind.i64.wrap (a+(1:Int))) t j k v u l m w))else (dq N c b d p q r s e f g h i o k0 n (IntKind.i64.wrap (a+(1:Int))) t j k v u l m w)))))))))else (k0 t j k v u l m w)
def m88 (N:Nat) (a:Zj) (b:Int):ZO [i60]:=dq N b (a.2:Ze) ((a.2:Ze).length:Int) false (0 0:Int) false false (0 0:Int) false false false (fun (c:Bool) (d e:Int) (f g:Bool) (h i:Int) (j:Bool)=>some ((c,(d,e),f,g,(h,i),j,false),())) N (0:Int) false (0 0:Int) false false (0 0:Int) false
def Γ88:Gam:=[(115,ks),(117,gA)]
theorem qR6:Gam.get Γ88 115=some ks/\Gam.get Γ88 117=some gA:=⟨rfl,rfl⟩
def u3:List Bool:=[O,I,O,O,I,I,O,O,O,O,O,O,O,O,I,I,I]
def Cf:Nm:=⟨u3,[],false⟩
theorem NC:NmS Cf u3 [] false:=nmS
def Cg:List Bool:=[O,O,O,O,I,I]
def ND:Nm:=⟨Cg,[],false⟩
theorem qVB:NmS ND Cg [] false:=nmS
def Ch:List Bool:=[O,I,O,O,I,I,O,O,O,O,O,O,O,O,I,I,I]
def NF:Nm:=⟨Ch,[],false⟩
theorem qX8:NmS NF Ch [] false:=nmS
def Ci:List Bool:=[O,I,O,O,I,I,O,O,O,O,O,O,O,O,I,I,I]
def NG:Nm:=⟨Ci,[],false⟩
theorem q2X:NmS NG Ci [] false:=nmS
def u4:Nat->Tree:=fun i=>if i=11 then .quiet 3 (.alt 0 (.alt 1 (.alt 2 (.alt 4 (.quiet 5 (.alt 6 (.quiet 7 (.alt 8 .done .stop)) .stop)) .stop) (.alt 4 (.quiet 5 (.alt 2 (.alt 6 (.quiet 7 (.alt 8 .done .stop)) .stop) (.alt 6 (.quiet 2 (.quiet 7 (.alt 8 .done .stop))) .stop))) .stop)) (.alt 4 (.quiet 5 (.alt 1 (.alt 2 (.alt 6 (.quiet 7 (.alt 8 .done .stop)) .stop) (.alt 6 (.quiet 2 (.quiet 7 (.alt 8 .done .stop))) .stop)) (.alt 6 (.quiet 1 (.quiet 2 (.quiet 7 (.alt 8 .done .stop)))) .stop))) .stop)) (.alt 1 (.alt 0 (.alt 2 (.alt 4 (.quiet 5 (.alt 6 (.quiet 7 (.alt 8 .done .stop)) .stop)) .stop) (.alt 4 (.quiet 5 (.alt 2 (.alt 6 (.quiet 7 (.alt 8 .done .stop)) .stop) (.alt 6 (.quiet 2 (.quiet 7 (.alt 8 .done .stop))) .stop))) .stop)) (.alt 2 (.alt 0 (.alt 4 (.quiet 5 (.alt 6 (.quiet 7 (.alt 8 .done .stop)) .stop)) .stop) (.alt 4 (.quiet 0 (.quiet 5 (.alt 6 (.quiet 7 (.alt 8 .done .stop)) .stop))) .stop)) (.alt 4 (.quiet 0 (.quiet 5 (.alt 2 (.alt 6 (.quiet 7 (.alt 8 .done .stop)) .stop) (.alt 6 (.quiet 2 (.quiet 7 (.alt 8 .done .stop))) .stop)))) .stop))) (.alt 4 (.quiet 0 (.quiet 5 (.alt 1 (.alt 2 (.alt 6 (.quiet 7 (.alt 8 .done .stop)) .stop) (.alt 6 (.quiet 2 (.quiet 7 (.alt 8 .done .stop))) .stop)) (.alt 6 (.quiet 1 (.quiet 2 (.quiet 7 (.alt 8 .done .stop)))) .stop)))) .stop)))else if i=14 then .quiet 3 (.alt 0 (.alt 1 (.alt 2 (.alt 4 (.quiet 5 (.alt 6 (.quiet 7 (.alt 8 .done .stop)) .stop)) .stop) (.alt 4 (.quiet 5 (.alt 2 (.alt 6 (.quiet 7 (.alt 8 .done .stop)) .stop) (.alt 6 (.quiet 2 (.quiet 7 (.alt 8 .done .stop))) .stop))) .stop)) (.alt 4 (.quiet 5 (.alt 1 (.alt 2 (.alt 6 (.quiet 7 (.alt 8 .done .stop)) .stop) (.alt 6 (.quiet 2 (.quiet 7 (.alt 8 .done .stop))) .stop)) (.alt 6 (.quiet 1 (.quiet 2 (.quiet 7 (.alt 8 .done .stop)))) .stop))) .stop)) (.alt 1 (.alt 0 (.alt 2 (.alt 4 (.quiet 5 (.alt 6 (.quiet 7 (.alt 8 .done .stop)) .stop)) .stop) (.alt 4 (.quiet 5 (.alt 2 (.alt 6 (.quiet 7 (.alt 8 .done .stop)) .stop) (.alt 6 (.quiet 2 (.quiet 7 (.alt 8 .done .stop))) .stop))) .stop)) (.alt 2 (.alt 0 (.alt 4 (.quiet 5 (.alt 6 (.quiet 7 (.alt 8 .done .stop)) .stop)) .stop) (.alt 4 (.quiet 0 (.quiet 5 (.alt 6 (.quiet 7 (.alt 8 .done .stop)) .stop))) .stop)) (.alt 4 (.quiet 0 (.quiet 5 (.alt 2 (.alt 6 (.quiet 7 (.alt 8 .done .stop)) .stop) (.alt 6 (.quiet 2 (.quiet 7 (.alt 8 .done .stop))) .stop)))) .stop))) (.alt 4 (.quiet 0 (.quiet 5 (.alt 1 (.alt 2 (.alt 6 (.quiet 7 (.alt 8 .done .stop)) .stop) (.alt 6 (.quiet 2 (.quiet 7 (.alt 8 .done .stop))) .stop)) (.alt 6 (.quiet 1 (.quiet 2 (.quiet 7 (.alt 8 .done .stop)))) .stop)))) .stop)))else .done
def Cj:Nat->Nm:=fun i=>if i=3 then Cf else ⟨[],[],false⟩
def Ck:Nat->Option Nm:=fun i=>if i=0 then some ND else none
def oN:Nat->Option Nm:=fun i=>if i=11 then some NF else if i=14 then some NG else none
theorem p88:qi u4 (Tryz.f88.body.getD .skip)=true:=by kernel_rfl
def T88 (N:Nat):Tab:={tr:=u4,lp:=Cj,ex:=Ck,rg:=oN,jn:=jn0,fuel:=N}
theorem qSs (N:Nat):qj Tryz.prog (T88 N):=qn fun _=>rfl
theorem Cl (N:Nat):qr (T88 N) u4 Cj Ck oN jn0 N false:=qt
def NH:Code:=cut [I,I,O,I,I,I] (Tryz.f88.body.getD .skip)
theorem qNu (N:Nat) (w:Int) (D:Ze) (G:Int) (r:Bool) (s t:Int) (v a:Bool) (b d:Int) (e f p:Bool) {k0:Bool->Int->Int->Bool->Bool->Int->Int->Bool->ZO [i60]} {Q:ZQ [i60]} {c:Code} (I:c=NH) (K: ∀st,Q .ret st=qz tt true [i60] [.cell 4 60] st) (H: ∀(x:Bool) (y z:Int) (A B:Bool) (C E:Int) (F:Bool),Q (.exit 0) ⟨[u,u,u,u,.one (.ptr 0 0 0),.one (.ptr 1 0 0),u,u,u,u,u,u,u,u,u,u,u,u,u,u,u,u,u,u,u,u,u,u,u,u,u,u,u,u,u,u,u,u,u,u,u,u,u,u,u,u,u,u,u,u,u,u,u,u,u,u,u,u,u,u,u,u,u,u,u,u,u,u,u,u,u,u,u,u,u,u,u,u,u,u,u,u,u,u,u,u],[.box [.bool r,.int .i64 s,.int .i64 t,.bool v,.bool a,.int .i64 b,.int .i64 d,.bool e,.bool f],.box [.bool x,.int .i64 y,.int .i64 z,.bool A,.bool B,.int .i64 C,.int .i64 E,.bool F,.bool p]]⟩=k0 x y z A B C E F): ∀(n:Nat) (q:Int) (g:Bool) (h i:Int) (j k:Bool) (l m:Int) (o:Bool),qw (qd tt Γ88 (T88 N) c) false Cf Q n ⟨[u,.one (.int .i64 w),u,u,.one (.ptr 0 0 0),.one (.ptr 1 0 0),u,u,u,u,u,u,u,u,.one (.sl 68 Y68 D 2),.one (.int .i64 G),.one (.int .i64 q),u,u,u,u,u,u,u,u,u,u,u,u,u,u,u,u,u,u,u,u,u,u,u,u,u,u,u,u,u,u,u,u,u,u,u,u,u,u,u,u,u,u,u,u,u,u,u,u,u,u,u,u,u,u,u,u,u,u,u,u,u,u,u,u,u,u,u,u,u],[.box [.bool r,.int .i64 s,.int .i64 t,.bool v,.bool a,.int .i64 b,.int .i64 d,.bool e,.bool f],.box [.bool g,.int .i64 h,.int .i64 i,.bool j,.bool k,.int .i64 l,.int .i64 m,.bool o,.bool p]]⟩=dq N w D G r s t v a b d e f p k0 n q g h i j k l m o:=by
 intro n;induction n with
 | zero=>intros;rfl
 | succ n J=>
   intro q g h i j k l m o
   rw [qD,qE I,dq];unfold NH Tryz.f88
   simp (maxSteps:=10000000) -implicitDefEqProofs [Cl,u4,Ck,oN,NC,u3,qVB,Cg,qX8,Ch,q2X,Ci,qR6,ks,gA,H,J]
theorem qVR (N:Nat) (a:Zj) (b:Int):qd tt Γ88 (T88 N) (Tryz.f88.body.getD .skip) (qk tt true [i60] [.cell 4 60]) (qm [i35,i3] 86 (a,b,()))=m88 N a b:=by
 unfold Tryz.f88
 simp -implicitDefEqProofs [Cl,Cj,oN,NC,u3]
 rewrite [qNu N _ _ _ _ _ _ _ _ _ _ _ _ _ ?_ ?_ ?_]
 ·rewrite [m88];first | rfl | simp -implicitDefEqProofs []
 ·rfl
 ·intro;simp only [qA,qC,qJ]
 ·intro c d e f g h i j;simp -implicitDefEqProofs [Cl,oN]
theorem Cm {r:Zh} (h:qh r=true):1<=(r.2:Int)/\Nat.gcd (Int.natAbs r.1) (Int.natAbs r.2)=1:=by
 unfold qh at h
 simp only [Bool.and_eq_true,decide_eq_true_eq]at h
 have h2:(1:Int)<=r.2/\ @LE.le Int _ r.2 400000000:=of_decide_eq_true h.1.1
 have a:eG r.1 r.2=1:=h.2
 have b:qq r.2=true:=decide_eq_true ⟨Int.le_trans (by decide) h2.1,h2.2⟩
 unfold eG at a
 rw [h.1.2,b]at a
 have a:((Nat.gcd (Int.natAbs r.1) (Int.natAbs r.2):Nat):Int)=1:=a
 exact ⟨h2.1,by omega⟩
theorem q0w {a b c d:Int} (i:1<=b) (hd:1<=d) (h1:Nat.gcd a.natAbs b.natAbs=1) (h2:Nat.gcd c.natAbs d.natAbs=1) (h:a*d=c*b):a=c/\b=d:=by
 have f:a.natAbs*d.natAbs=c.natAbs*b.natAbs:=by rw [<-Int.natAbs_mul,<-Int.natAbs_mul,h]
 have d1:b.natAbs ∣ d.natAbs:=(Nat.Coprime.symm h1:Nat.Coprime b.natAbs a.natAbs).dvd_of_dvd_mul_left ⟨c.natAbs,by rw [f,Nat.mul_comm]⟩
 have d2:d.natAbs ∣ b.natAbs:=(Nat.Coprime.symm h2:Nat.Coprime d.natAbs c.natAbs).dvd_of_dvd_mul_left ⟨a.natAbs,by rw [<-f,Nat.mul_comm]⟩
 have e:b.natAbs=d.natAbs:=Nat.dvd_antisymm d1 d2
 have g:b=d:=by omega
 subst g
 exact ⟨Int.eq_of_mul_eq_mul_right (by omega) h,rfl⟩
theorem NI {a b:Zh} (f:qh a=true) (g:qh b=true) (h:(a.1:Int)*b.2=b.1*a.2):a=b:=by
 obtain ⟨c,a2⟩:=Cm f
 obtain ⟨d,e⟩:=Cm g
 obtain ⟨h1,h2⟩:=q0w c d a2 e h
 exact Prod.ext h1 h2
theorem NJ (m:Int) (g:Nat):(m.tdiv (g:Int)).natAbs=m.natAbs / g:=by rw [Int.natAbs_tdiv];rfl
theorem NK {m e:Int} (hm: -400000000<=m/\m<=400000000) (he:0<e/\e<=400000000):qh ((m.tdiv (qR m e),e.tdiv (qR m e)):Zh)=true:=by
 have b:0<Nat.gcd m.natAbs e.natAbs:=Nat.gcd_pos_of_pos_right _ (by omega)
 have d:qR m e=((Nat.gcd m.natAbs e.natAbs:Nat):Int):=rfl
 rw [d]
 generalize a:Nat.gcd m.natAbs e.natAbs=g at b
 have hle:g<=e.natAbs:=by rw [<-a];exact Nat.gcd_le_right _ (by omega)
 have t1:=NJ m g
 have t2:=NJ e g
 have j:m.natAbs / g<=m.natAbs:=Nat.div_le_self _ _
 have k:e.natAbs / g<=e.natAbs:=Nat.div_le_self _ _
 have l:0<e.natAbs / g:=Nat.div_pos hle b
 have p:0<=e.tdiv (g:Int):=Int.tdiv_nonneg (by omega) (by omega)
 have h:Nat.gcd (m.tdiv (g:Int)).natAbs (e.tdiv (g:Int)).natAbs=1:=by
  rw [t1,t2,<-a]
  exact Nat.gcd_div_gcd_div_gcd_of_pos_right (by omega)
 have c:qq (m.tdiv (g:Int))=true:=decide_eq_true (by omega)
 have i:qq (e.tdiv (g:Int))=true:=decide_eq_true (by omega)
 unfold qh
 rw [gq (show 1<=e.tdiv (g:Int)/\e.tdiv (g:Int)<=400000000 by omega)]
 have f:eG (m.tdiv (g:Int)) (e.tdiv (g:Int))=1:=by
  unfold eG qR
  rw [c,i,h];rfl
 simp only [c,f,decide_true,Bool.and_self]
theorem qNZ {n d:Int} (b: -400000000<=n/\n<=400000000) (hd: -400000000<=d/\d<=400000000) (a:d≠0):qh (qT n d)=true:=by
 unfold qT
 rw [if_neg a]
 by_cases h1:d<0
 ·rw [if_pos h1]
  unfold gy
  have:=NK (m:= -n) (e:= -d) (by omega) (by omega)
  rw [this];exact this
 ·rw [if_neg h1]
  unfold gy
  have:=NK (m:=n) (e:=d) b (by omega)
  rw [this];exact this
theorem Cn {n d:Int} (a: -400000000<=n/\n<=400000000) (hd: -400000000<=d/\d<=400000000):qF n d=qT n d:=by
 unfold qF
 rw [show qq n=true from decide_eq_true a,show qq d=true from decide_eq_true hd];rfl
theorem qRO {a b:Zh} (c:qh a=true) (d:qh b=true):decide (cC a b<0)=bD a b:=by
 unfold cC bD sgn
 rw [c,d]
 simp only [Bool.and_self,cond_true]
 by_cases h1:(a.1:Int)*b.2<b.1*a.2
 ·rw [if_pos h1,decide_eq_true h1];rfl
 ·rw [if_neg h1,decide_eq_false h1]
  by_cases h2:(b.1:Int)*a.2<a.1*b.2
  ·rw [if_pos h2];rfl
  ·rw [if_neg h2];rfl
theorem NL {a b:Zh} (c:qh a=true) (d:qh b=true):decide (0<cC a b)=bD b a:=by
 unfold cC bD sgn
 rw [c,d]
 simp only [Bool.and_self,cond_true]
 by_cases h1:(a.1:Int)*b.2<b.1*a.2
 ·rw [if_pos h1,decide_eq_false (show ¬(b.1:Int)*a.2<a.1*b.2 from fun h=>Int.lt_irrefl _ (Int.lt_trans h h1))];rfl
 ·rw [if_neg h1]
  by_cases h2:(b.1:Int)*a.2<a.1*b.2
  ·rw [if_pos h2,decide_eq_true h2];rfl
  ·rw [if_neg h2,decide_eq_false h2];rfl
theorem mz {a b:Zh} (c:qh a=true) (d:qh b=true):(cC a b=0)↔a=b:=by
 constructor
 ·intro h
  refine NI c d ?_
  unfold cC sgn at h
  rw [c,d]at h
  simp only [Bool.and_self,cond_true]at h
  by_cases h1:(a.1:Int)*b.2<b.1*a.2
  ·rw [if_pos h1]at h;omega
  ·rw [if_neg h1]at h
   by_cases h2:(b.1:Int)*a.2<a.1*b.2
   ·rw [if_pos h2]at h;omega
   ·exact Int.le_antisymm (Int.not_lt.1 h2) (Int.not_lt.1 h1)
 ·intro h
  subst h
  unfold cC sgn
  rw [c]
  simp only [Bool.and_self,cond_true]
  rw [if_neg (Int.lt_irrefl _),if_neg (Int.lt_irrefl _)]
theorem u5 {r:Zh} (h:okQ r):gx r:=by
 rcases h with h | h
 ·exact cI h
 ·subst h;exact ⟨⟨by decide,by decide⟩,⟨by decide,by decide⟩⟩
theorem mA {a:Zf} {v:Int} (b:okA a) (f:cfV v a≠0):qh (qF (-(a.2.1:Int)) (cfV v a))=true:=by
 have c:=fg b
 have e:=oH (v:=v) b
 have d: -400000000<= -(a.2.1:Int)/\ -(a.2.1:Int)<=400000000:=⟨Int.neg_le_neg c.2,by have:=Int.neg_le_neg c.1;exact this⟩
 rw [Cn d e]
 exact qNZ d e f
theorem qNp (b:Zk) (a:Zf) (v:Int) (h:uW b a v): ∃N,uY N b a v=some (bO b a v,()):=⟨0,by
 obtain ⟨i,c,w⟩:=h
 obtain ⟨k,l,lo,j,g,A,em⟩:=b
 have z:=fg c
 have s:inI a.2.1:=(ch c).2.1
 have u:gx l:=u5 i.1.1
 have t:gx g:=u5 i.2.1
 rw [uY]
 rw [qc (show 0<=v/\v<(List.length (α:=Zc) a.1:Int) from w),ko v a,hp s]
 unfold bO
 have m:=fun q=>mA (v:=v) c q
 generalize cfV v a=x at*
 generalize qF (-(a.2.1:Int)) x=r at*
 have o:(((r.1:Int),(r.2:Int)):Zh)=r:=rfl
 try rw [o]
 by_cases f:0<x
 ·have e:gx r:=cI (m (by omega))
  have y: ¬x<0:=by omega
  simp only [decide_eq_true f,decide_eq_false y,cond_true,cond_false]
  have p:eH r g:=⟨e,t⟩
  by_cases he:r=g
  ·subst he
   cases j<;>simp only [Bool.not_true,Bool.not_false,cond_true,cond_false,Bool.true_or,Bool.false_or]
   rw [qc p]
   cases bD r r<;>cases a.2.2<;>simp
  ·have d:(decide ((r.1:Int)=(g.1:Int))&&decide ((r.2:Int)=(g.2:Int)))=false:=by
        rw [Bool.eq_false_iff]
        intro h
        simp only [Bool.and_eq_true,decide_eq_true_eq]at h
        exact he (Prod.ext h.1 h.2)
   cases j<;>simp only [Bool.not_true,Bool.not_false,cond_true,cond_false,Bool.true_or,Bool.false_or]
   rw [qc p]
   simp only [d,decide_eq_false he,cond_false,Bool.false_and,Bool.or_false]
   cases bD r g<;>rfl
 ·by_cases n:x<0
  ·have e:gx r:=cI (m (by omega))
   simp only [decide_eq_false f,decide_eq_true n,cond_true,cond_false]
   have p:eH l r:=⟨u,e⟩
   by_cases he:r=l
   ·subst he
    cases k<;>simp only [Bool.not_true,Bool.not_false,cond_true,cond_false,Bool.true_or,Bool.false_or]
    rw [qc p]
    cases bD r r<;>cases a.2.2<;>simp
   ·have d:(decide ((r.1:Int)=(l.1:Int))&&decide ((r.2:Int)=(l.2:Int)))=false:=by
     rw [Bool.eq_false_iff]
     intro h
     simp only [Bool.and_eq_true,decide_eq_true_eq]at h
     exact he (Prod.ext h.1 h.2)
    cases k<;>simp only [Bool.not_true,Bool.not_false,cond_true,cond_false,Bool.true_or,Bool.false_or]
    rw [qc p]
    simp only [d,decide_eq_false he,cond_false,Bool.false_and,Bool.or_false]
    cases bD l r<;>rfl
  ·simp only [decide_eq_false f,decide_eq_false n,cond_false]⟩
theorem qXC:Sound Tryz.prog 105 uX:=qo (tt:=tt) (Γ:=uZ) hT (qe Nx (qe q2w ql)) hm (fn:=Tryz.f105) Tryz.func105 (c:=Tryz.f105.body.getD .skip) (by kernel_rfl) (by kernel_rfl) fun x a=>by
 obtain ⟨N,h⟩:=qNp x.1 x.2.1 x.2.2.1 a
 exact ⟨u0 N,qOh,qp _,q00 N,(qM8 N x.1 x.2.1 x.2.2.1).trans h⟩
theorem NM {r:Zh} (h:qh r=true):okQ r:= .inl h
theorem u6 {b:Zk} {a:Zf} {v:Int} (c:c6 b) (e:okA a):c6 (bO b a v):=by
 unfold bO
 by_cases f:0<cfV v a
 ·have d:=mA (v:=v) e (by omega)
  rw [qg f]
  cases (!b.2.2.2.1||bD (qF (-(a.2.1:Int)) (cfV v a)) b.2.2.2.2.1||(decide (qF (-(a.2.1:Int)) (cfV v a)=b.2.2.2.2.1)&&a.2.2))with
  | true=>exact ⟨c.1,NM d,fun _=>d⟩
  | false=>exact c
 ·rw [qf f]
  by_cases g:cfV v a<0
  ·have d:=mA (v:=v) e (by omega)
   rw [qg g]
   cases (!b.1||bD b.2.1 (qF (-(a.2.1:Int)) (cfV v a))||(decide (qF (-(a.2.1:Int)) (cfV v a)=b.2.1)&&a.2.2))with
   | true=>exact ⟨⟨NM d,fun _=>d⟩,c.2⟩
   | false=>exact c
  ·rw [qf g];exact c
theorem gD:c6 noB:=⟨⟨.inr rfl,fun h=>by simp [noB]at h⟩,.inr rfl,fun h=>by simp [noB]at h⟩
theorem oO {v:Int}: ∀{l:Ze} {b:Zk},c6 b->(∀a∈l,okA a)->c6 (l.foldl (fun b a=>bO b a v) b)
 | [],_,d,_=>d
 | a::r,b,d,h=>oO (l:=r) (u6 d (h a (by simp))) fun c e=>h c (by simp [e])
abbrev KB:=Bool->Int->Int->Bool->Bool->Int->Int->Bool->Bool->ZO [i60]
def apB (K:KB) (b:Zk):ZO [i60]:=K b.1 b.2.1.1 b.2.1.2 b.2.2.1 b.2.2.2.1 b.2.2.2.2.1.1 b.2.2.2.2.1.2 b.2.2.2.2.2.1 b.2.2.2.2.2.2
theorem q1S {b:Zk} {a:Zf} {v:Int} (h:bo a=false):bO b a v=b:=by
 have e:cfV v a=0:=by
  unfold bo at h
  have d:gL 0 (atm a).1=0:=by simpa using h
  unfold cfV
  by_cases c:v.toNat<List.length (α:=Int) a.1
  ·rw [List.getD_eq_getElem?_getD,List.getElem?_eq_getElem c]
   exact mg.1 d _ (List.getElem_mem c)
  ·rw [List.getD_eq_getElem?_getD,List.getElem?_eq_none (by omega)];rfl
 unfold bO
 rw [e]
 rfl
theorem t72 (N:Nat) (d v:Int) (g:0<=v/\v<d) (l:Ze) (p:l.length<=16) (h: ∀a∈l,okD d a) (K:KB): ∀(k i:Nat),l.length - i=k-> ∀n,k<n-> ∀b:Zk,c6 b->
 apB (iT N v d l false 0 0 false false 0 0 false false K n i) b=bif (l.drop i).any bU then some (gB,())else apB K ((l.drop i).foldl (fun b a=>bO b a v) b)
 | 0,i,o,n+1,_,b,_=>by
   unfold apB
   rw [iT,qf (by omega),List.drop_eq_nil_of_le (by omega)]
   rfl
 | k+1,i,o,n+1,s,b,e=>by
   have h1:i<l.length:=by omega
   have c:=h _ (List.getElem_mem h1)
   have m:=c.2
   have q:uW b l[i] v:=⟨e,c.1,g.1,by rw [m];exact g.2⟩
   rw [cL h1,List.foldl_cons,List.any_cons]
   have j:=t72 N d v g l p h K k (i+1) (by omega) n (by omega)
   unfold apB at*
   rw [iT,qg (by omega),qc (by omega),qB h1,qc (show mn l[i] from c.1),b3 h1 (by omega)]
   cases f:ej l[i]with
   | true=>
     have r:bo l[i]=false:=by simpa [ej] using f
     simp only [cond_true]
     rw [qc (by omega),AP,f,q1S r]
     cases gn l[i]with
     | false=>rfl
     | true=>exact j b e
   | false=>
     simp only [cond_false]
     rw [AP,f,qc (by omega)]
     refine (qc q).trans ?_
     exact j (bO b l[i] v) (u6 e c.1)
theorem e72 (c:Zj) (v:Int) (h:gC c v): ∃N,m72 N c v=some (bX c v,()):=⟨List.length (α:=Zf) c.2+1,by
 obtain ⟨n,s⟩:=h
 obtain ⟨hd,d,j⟩:=bB n
 rw [m72]
 unfold bX
 have t:=t72 (List.length (α:=Zf) c.2+1) c.1 v s c.2 d j
 refine (t _ _ 0 rfl _ (Nat.lt_succ_self _) noB gD).trans ?_
 rw [List.drop_zero]
 cases List.any (α:=Zf) c.2 bU with
 | true=>rfl
 | false=>
   simp only [cond_false]
   have e:c6 (qO c v):=oO gD fun a m=>(j a m).1
   rw [show List.foldl (fun (b:Zk) (a:Zf)=>bO b a v) noB (c.2:Ze)=qO c v from rfl]
   generalize qO c v=b at e
   obtain ⟨d,l,lo,f,g,i,em⟩:=b
   unfold apB oM
   dsimp only
   have q:gx l:=u5 e.1.1
   have o:gx g:=u5 e.2.1
   have p:eH g l:=⟨o,q⟩
   have k:(((g.1:Int),(g.2:Int)):Zh)=g:=rfl
   have el:(((l.1:Int),(l.2:Int)):Zh)=l:=rfl
   try rw [k]
   try rw [el]
   rw [qc p]
   by_cases he:g=l
   ·subst he
    cases d<;>cases f<;>cases bD g g<;>cases lo<;>cases i<;>simp [gB]
   ·have r:(decide ((g.1:Int)=(l.1:Int))&&decide ((g.2:Int)=(l.2:Int)))=false:=by
        rw [Bool.eq_false_iff]
        intro h
        simp only [Bool.and_eq_true,decide_eq_true_eq]at h
        exact he (Prod.ext h.1 h.2)
    rw [r,decide_eq_false he]
    cases d<;>cases f<;>cases bD g l<;>cases lo<;>cases i<;>rfl⟩
theorem s72:Sound Tryz.prog 72 g72:=qo (tt:=tt) (Γ:=Γ72) hT (qe Mr (qe Mt (qe qXC (qe Nx ql)))) hm (fn:=Tryz.f72) Tryz.func72 (c:=Tryz.f72.body.getD .skip) (by kernel_rfl) (by kernel_rfl) fun x a=>by
 obtain ⟨N,h⟩:=e72 x.1 x.2.1 a
 exact ⟨T72 N,p72,qp _,qTJ N,(qQ2 N x.1 x.2.1).trans h⟩
abbrev KB8:=Bool->Int->Int->Bool->Bool->Int->Int->Bool->ZO [i60]
def fh (K:KB8) (b:Zk):ZO [i60]:=K b.1 b.2.1.1 b.2.1.2 b.2.2.1 b.2.2.2.1 b.2.2.2.2.1.1 b.2.2.2.2.1.2 b.2.2.2.2.2.1
theorem qS8 (b:Zk) (a:Zf) (v:Int):(bO b a v).2.2.2.2.2.2=b.2.2.2.2.2.2:=by
 unfold bO
 cases decide (0<cfV v a)with
 | true=>cases (!b.2.2.2.1||bD (qF (-(a.2.1:Int)) (cfV v a)) b.2.2.2.2.1||(decide (qF (-(a.2.1:Int)) (cfV v a)=b.2.2.2.2.1)&&a.2.2))<;>rfl
 | false=>
   cases decide (cfV v a<0)with
   | true=>cases (!b.1||bD b.2.1 (qF (-(a.2.1:Int)) (cfV v a))||(decide (qF (-(a.2.1:Int)) (cfV v a)=b.2.1)&&a.2.2))<;>rfl
   | false=>rfl
theorem Co {v:Int}: ∀(l:Ze) (b:Zk),(l.foldl (fun b a=>bO b a v) b).2.2.2.2.2.2=b.2.2.2.2.2.2
 | [],_=>rfl
 | a::r,b=>(Co r (bO b a v)).trans (qS8 b a v)
theorem qQK (c:KB8) {b:Zk} {a:Zf} {v:Int} (k:c6 b) (i:okA a):
 (bif decide (cfV v a=0)then fh c b else chk (dn (-(a.2.1:Int)) (cfV v a)) (bif decide (0<cfV v a)then (bif !b.2.2.2.1 then c b.1 b.2.1.1 b.2.1.2 b.2.2.1 true (qT (-(a.2.1:Int)) (cfV v a)).1 (qT (-(a.2.1:Int)) (cfV v a)).2 a.2.2 else bif decide (cC (qT (-(a.2.1:Int)) (cfV v a)) b.2.2.2.2.1<0)then c b.1 b.2.1.1 b.2.1.2 b.2.2.1 true (qT (-(a.2.1:Int)) (cfV v a)).1 (qT (-(a.2.1:Int)) (cfV v a)).2 a.2.2 else bif decide (cC (qT (-(a.2.1:Int)) (cfV v a)) b.2.2.2.2.1=0)then (bif a.2.2 then c b.1 b.2.1.1 b.2.1.2 b.2.2.1 true (qT (-(a.2.1:Int)) (cfV v a)).1 (qT (-(a.2.1:Int)) (cfV v a)).2 a.2.2 else fh c b)else fh c b)
   else (bif !b.1 then c true (qT (-(a.2.1:Int)) (cfV v a)).1 (qT (-(a.2.1:Int)) (cfV v a)).2 a.2.2 b.2.2.2.1 b.2.2.2.2.1.1 b.2.2.2.2.1.2 b.2.2.2.2.2.1 else bif decide (0<cC (qT (-(a.2.1:Int)) (cfV v a)) b.2.1)then c true (qT (-(a.2.1:Int)) (cfV v a)).1 (qT (-(a.2.1:Int)) (cfV v a)).2 a.2.2 b.2.2.2.1 b.2.2.2.2.1.1 b.2.2.2.2.1.2 b.2.2.2.2.2.1 else bif decide (cC (qT (-(a.2.1:Int)) (cfV v a)) b.2.1=0)then (bif a.2.2 then c true (qT (-(a.2.1:Int)) (cfV v a)).1 (qT (-(a.2.1:Int)) (cfV v a)).2 a.2.2 b.2.2.2.1 b.2.2.2.2.1.1 b.2.2.2.2.1.2 b.2.2.2.2.2.1 else fh c b)else fh c b)))=fh c (bO b a v):=by
 have m:=fg i
 have u:=oH (v:=v) i
 have o: -400000000<= -(a.2.1:Int)/\ -(a.2.1:Int)<=400000000:=⟨Int.neg_le_neg m.2,by have:=Int.neg_le_neg m.1;exact this⟩
 have t:dn (-(a.2.1:Int)) (cfV v a):=⟨hA (ch i).2.1,by unfold inI;omega⟩
 have n:=fun e=>mA (v:=v) i e
 have s:qF (-(a.2.1:Int)) (cfV v a)=qT (-(a.2.1:Int)) (cfV v a):=Cn o u
 rw [qc t]
 unfold bO
 rw [s]at n ⊢
 generalize cfV v a=x at*
 generalize qT (-(a.2.1:Int)) x=r at*
 obtain ⟨q,l,lo,p,g,w,em⟩:=b
 by_cases e:x=0
 ·subst e;rfl
 have d:=n e
 rw [qf e]
 by_cases j:0<x
 ·rw [qg j,qg j]
  cases p with
  | false=>rfl
  | true=>
    have f:qh g=true:=k.2.2 rfl
    dsimp only
    rw [qRO d f]
    by_cases he:r=g
    ·subst he
     rw [qg ((mz d d).2 rfl)]
     cases bD r r<;>cases a.2.2<;>simp [fh]
    ·rw [qf (fun h=>he ((mz d f).1 h)),decide_eq_false he]
     cases bD r g<;>rfl
 ·rw [qf j,qf j,qg (show x<0 by omega)]
  cases q with
  | false=>rfl
  | true=>
    have f:qh l=true:=k.1.2 rfl
    dsimp only
    rw [NL d f]
    by_cases he:r=l
    ·subst he
     rw [qg ((mz d d).2 rfl)]
     cases bD r r<;>cases a.2.2<;>simp [fh]
    ·rw [qf (fun h=>he ((mz d f).1 h)),decide_eq_false he]
     cases bD l r<;>rfl
theorem t88 (N:Nat) (d v:Int) (e:0<=v/\v<d) (l:Ze) (o:l.length<=16) (h: ∀a∈l,okD d a) (K:KB8): ∀(k i:Nat),l.length - i=k-> ∀n,k<n-> ∀b:Zk,c6 b->
 fh (dq N v l l.length false 0 0 false false 0 0 false false false K n i) b=fh K ((l.drop i).foldl (fun b a=>bO b a v) b)
 | 0,i,m,n+1,_,b,_=>by
   unfold fh
   rw [dq,qf (by omega),List.drop_eq_nil_of_le (by omega)]
   rfl
 | k+1,i,m,n+1,p,b,f=>by
   have h1:i<l.length:=by omega
   have c:=h _ (List.getElem_mem h1)
   have g:=c.2
   rw [cL h1,List.foldl_cons]
   refine Eq.trans ?_ (t88 N d v e l o h K k (i+1) (by omega) n (by omega) (bO b l[i] v) (u6 f c.1))
   rw [<-qQK _ f c.1]
   have j:inI l[i].2.1:=(ch c.1).2.1
   conv=>lhs;unfold fh
   rw [dq,qg (by omega),qc (by omega),qB h1,qc ⟨e.1,by rw [show (List.length (α:=Zc) l[i].1:Int)=d from g];exact e.2⟩,ko v l[i],hp j,b3 h1 (by omega)]
   rfl
theorem e88 (c:Zj) (v:Int) (h:hC c v): ∃N,m88 N c v=some (qO c v,()):=⟨List.length (α:=Zf) c.2+1,by
 obtain ⟨e,i⟩:=h
 obtain ⟨hd,d,f⟩:=bB e
 rw [m88]
 have t:=t88 (List.length (α:=Zf) c.2+1) c.1 v i c.2 d f
 refine (t _ _ 0 rfl _ (Nat.lt_succ_self _) noB gD).trans ?_
 rw [List.drop_zero]
 have he:(qO c v).2.2.2.2.2.2=false:=Co _ noB
 rw [show List.foldl (fun (b:Zk) (a:Zf)=>bO b a v) noB (c.2:Ze)=qO c v from rfl]
 generalize qO c v=b at he
 obtain ⟨d,l,lo,j,g,k,em⟩:=b
 have he:em=false:=he
 subst he
 rfl⟩
theorem s88:Sound Tryz.prog 88 g88:=qo (tt:=tt) (Γ:=Γ88) hT (qe Nv (qe B5 ql)) hm (fn:=Tryz.f88) Tryz.func88 (c:=Tryz.f88.body.getD .skip) (by kernel_rfl) (by kernel_rfl) fun x a=>by
 obtain ⟨N,h⟩:=e88 x.1 x.2.1 a
 exact ⟨T88 N,p88,qp _,qSs N,(qVR N x.1 x.2.1).trans h⟩
def b9 (c:Zj) (v:Int):Zk×Bool:=bif qI c&&decide (0<=v/\v<(c.1:Int))then (match cO v (c.1:Int).toNat (qS c.1 c.2)with
    | some x=>(bX x v,true)
    | none=>(noB,false))else (noB,false)
def Cp (c:Zj) (_:Int):Prop:=b8 c
def g82:G:={ps:=[i35,i3],rs:=[i60,i4],dp:=true,pre:=fun _=>True,fn:=fun x=>((b9 x.1 x.2.1).1,(b9 x.1 x.2.1).2,())}
def g67:G:={ps:=[i35,i3],rs:=[i60,i4],dp:=true,pre:=fun x=>Cp x.1 x.2.1,fn:=fun x=>((b9 x.1 x.2.1).1,(b9 x.1 x.2.1).2,())}
def iU (N:Nat) (d:Int) (h:Bool) (i j:Int) (k l:Bool) (m e:Int) (f g:Bool) (k0:Int->(Ze)->ZO [i60,i4]):Nat->Int->Int->(Ze)->ZO [i60,i4]
 | 0,_,_,_=>none
 | n+1,a,b,c=>bif (decide ((0:Int)<=a))then (bif (decide (a=d))then (iU N d h i j k l m e f g k0 n (IntKind.i64.wrap (a - (1:Int))) b c)else (bif (!((ek (b,c) a).2:Bool))then (some ((false,((0:Int),(0:Int)),false,false,((0:Int),(0:Int)),false,false),false,()))else (iU N d h i j k l m e f g k0 n (IntKind.i64.wrap (a - (1:Int))) (((ek (b,c) a).1).1:Int) (((ek (b,c) a).1).2:Ze))))else (k0 b c)
def m82 (N:Nat) (d:Zj) (a:Int):ZO [i60,i4]:=bif (!((qI d):Bool))then (some ((false,((0:Int),(0:Int)),false,false,((0:Int),(0:Int)),false,false),false,()))else (bif (decide (a<(0:Int)))then (some ((false,((0:Int),(0:Int)),false,false,((0:Int),(0:Int)),false,false),false,()))else (bif (decide ((d.1:Int)<=a))then (some ((false,((0:Int),(0:Int)),false,false,((0:Int),(0:Int)),false,false),false,()))else (chk (dy (d.1:Int) (d.2:Ze)) (iU N a false (0 0:Int) false false (0 0:Int) false false (fun (b:Int) (c:Ze)=>chk (oL (b,c)) (bif ((hB (b,c)):Bool)then (some ((false,((0:Int),(0:Int)),false,false,((0:Int),(0:Int)),false,true),true,()))else (chk (hC (b,c) a) (bif ((qO (b,c) a).1:Bool)then (bif (((((qO (b,c) a).2).2).2).1:Bool)then (bif (decide ((0:Int)<((cC (((qO (b,c) a).2).1) ((((((qO (b,c) a).2).2).2).2).1)):Int)))then (some ((false,((0:Int),(0:Int)),false,false,((0:Int),(0:Int)),false,true),true,()))else (bif (decide (((cC (((qO (b,c) a).2).1) ((((((qO (b,c) a).2).2).2).2).1)):Int)=(0:Int)))then (bif ((((qO (b,c) a).2).2).1:Bool)then (some ((false,((0:Int),(0:Int)),false,false,((0:Int),(0:Int)),false,true),true,()))else (bif (((((((qO (b,c) a).2).2).2).2).2).1:Bool)then (some ((false,((0:Int),(0:Int)),false,false,((0:Int),(0:Int)),false,true),true,()))else (some ((qO (b,c) a),true,()))))else (some ((qO (b,c) a),true,()))))else (some ((qO (b,c) a),true,())))else (some ((qO (b,c) a),true,())))))) N (IntKind.i64.wrap ((d.1:Int) - (1:Int))) ((qS (d.1:Int) (d.2:Ze)).1:Int) ((qS (d.1:Int) (d.2:Ze)).2:Ze)))))
def Γ82:Gam:=[(45,g45),(88,g88),(112,gl),(113,kk),(114,uS),(115,ks)]
theorem Cq:Gam.get Γ82 45=some g45/\Gam.get Γ82 88=some g88/\Gam.get Γ82 112=some gl/\Gam.get Γ82 113=some kk/\Gam.get Γ82 114=some uS/\Gam.get Γ82 115=some ks:=⟨rfl,rfl,rfl,rfl,rfl,rfl⟩
def u7:List Bool:=[O,I,O,O,I,O,I,I]
def Cr:Nm:=⟨u7,[],false⟩
theorem NN:NmS Cr u7 [] false:=nmS
def Cs:List Bool:=[O,I,O,O,I,O,I]
def NO:Nm:=⟨Cs,[],false⟩
theorem qW1:NmS NO Cs [] false:=nmS
def Ct:Nat->Nm:=fun i=>if i=5 then Cr else ⟨[],[],false⟩
def Cu:Nat->Option Nm:=fun i=>if i=0 then some NO else none
theorem p82:qi tr0 (Tryz.f82.body.getD .skip)=true:=by kernel_rfl
def T82 (N:Nat):Tab:={tr:=tr0,lp:=Ct,ex:=Cu,rg:=rg0,jn:=jn0,fuel:=N}
theorem qY8 (N:Nat):qj Tryz.prog (T82 N):=qn fun _=>rfl
theorem Cv (N:Nat):qr (T82 N) tr0 Ct Cu rg0 jn0 N false:=qt
def NP:Code:=cut [I,I,I,O,I,I,I] (Tryz.f82.body.getD .skip)
theorem qRR (N:Nat) (g:Int) (i:Bool) (j k:Int) (l m:Bool) (o a:Int) (b d:Bool) {k0:Int->(Ze)->ZO [i60,i4]} {Q:ZQ [i60,i4]} {c:Code} (s:c=NP) (t: ∀st,Q .ret st=qz tt true [i60,i4] [.cell 4 60,.tmp 5] st) (r: ∀(p:Int) (q:Ze),Q (.exit 0) ⟨[u,.one (.int .i64 g),u,u,.one (.ptr 0 0 0),u,.one (.ptr 1 0 0),u,u,u,u,u,u,u,u,u,u,u,u,u,u,u,u,u,u,u,u,u,u,u,u,u,u,u,u,u,u,u,u,u,u,u,u,u,u,u,u,u,u,u,u,u,u,u,u,u,u,u,u,u,u,u,u,u,u,u,u,u,u,u,u,u,u,u,u,u,u,u,u,u,u,u,u,u],[.box [.bool i,.int .i64 j,.int .i64 k,.bool l,.bool m,.int .i64 o,.int .i64 a,.bool b,.bool d],.box [.int .i64 p,.own 2],.row 68 Y68 q true true 0]⟩=k0 p q): ∀(n:Nat) (h e:Int) (f:Ze),qw (qd tt Γ82 (T82 N) c) false Cr Q n ⟨[u,.one (.int .i64 g),u,u,.one (.ptr 0 0 0),u,.one (.ptr 1 0 0),.one (.int .i64 h),u,u,u,u,u,u,u,u,u,u,u,u,u,u,u,u,u,u,u,u,u,u,u,u,u,u,u,u,u,u,u,u,u,u,u,u,u,u,u,u,u,u,u,u,u,u,u,u,u,u,u,u,u,u,u,u,u,u,u,u,u,u,u,u,u,u,u,u,u,u,u,u,u,u,u,u],[.box [.bool i,.int .i64 j,.int .i64 k,.bool l,.bool m,.int .i64 o,.int .i64 a,.bool b,.bool d],.box [.int .i64 e,.own 2],.row 68 Y68 f true true 0]⟩=iU N g i j k l m o a b d k0 n h e f:=by
 intro n;induction n with
 | zero=>intros;rfl
 | succ n v=>
   intro h e f
   rw [qD,qE s,iU];unfold NP Tryz.f82
   simp -implicitDefEqProofs [Cv,Cu,NN,u7,qW1,Cs,Cq,kk,t,r,v]
theorem qVO (N:Nat) (d:Zj) (c:Int):qd tt Γ82 (T82 N) (Tryz.f82.body.getD .skip) (qk tt true [i60,i4] [.cell 4 60,.tmp 5]) (qm [i35,i3] 84 (d,c,()))=m82 N d c:=by
 unfold Tryz.f82
 simp -implicitDefEqProofs [Cv,Ct,NN,u7,Cq,g45,gl]
 rewrite [qRR (k0:=(fun (a:Int) (b:Ze)=>chk (oL (a,b)) (bif ((hB (a,b)):Bool)then (some ((false,((0:Int),(0:Int)),false,false,((0:Int),(0:Int)),false,true),true,()))else (chk (hC (a,b) c) (bif ((qO (a,b) c).1:Bool)then (bif (((((qO (a,b) c).2).2).2).1:Bool)then (bif (decide ((0:Int)<((cC (((qO (a,b) c).2).1) ((((((qO (a,b) c).2).2).2).2).1)):Int)))then (some ((false,((0:Int),(0:Int)),false,false,((0:Int),(0:Int)),false,true),true,()))else (bif (decide (((cC (((qO (a,b) c).2).1) ((((((qO (a,b) c).2).2).2).2).1)):Int)=(0:Int)))then (bif ((((qO (a,b) c).2).2).1:Bool)then (some ((false,((0:Int),(0:Int)),false,false,((0:Int),(0:Int)),false,true),true,()))else (bif (((((((qO (a,b) c).2).2).2).2).2).1:Bool)then (some ((false,((0:Int),(0:Int)),false,false,((0:Int),(0:Int)),false,true),true,()))else (some ((qO (a,b) c),true,()))))else (some ((qO (a,b) c),true,()))))else (some ((qO (a,b) c),true,())))else (some ((qO (a,b) c),true,()))))))) N _ _ _ _ _ _ _ _ _ _ ?_ ?_ ?_]
 ·rewrite [m82];first | rfl | simp -implicitDefEqProofs []
 ·rfl
 ·intro;simp only [qA,qC,qJ]
 ·intro a b;simp -implicitDefEqProofs [Cv,Cq,g88,uS,ks]
def iV (N:Nat) (d:Int) (h:Bool) (i j:Int) (k l:Bool) (m e:Int) (f g:Bool) (k0:Int->(Ze)->ZO [i60,i4]):Nat->Int->Int->(Ze)->ZO [i60,i4]
 | 0,_,_,_=>none
 | n+1,a,b,c=>bif (decide ((0:Int)<=a))then (bif (decide (a=d))then (iV N d h i j k l m e f g k0 n (IntKind.i64.wrap (a - (1:Int))) b c)else (chk (mr (b,c) a) (bif (!((qW (b,c) a).2:Bool))then (some ((false,((0:Int),(0:Int)),false,false,((0:Int),(0:Int)),false,false),false,()))else (iV N d h i j k l m e f g k0 n (IntKind.i64.wrap (a - (1:Int))) (((qW (b,c) a).1).1:Int) (((qW (b,c) a).1).2:Ze)))))else (k0 b c)
def m67 (N:Nat) (a:Zj) (b:Int):ZO [i60,i4]:=chk (b8 a) (bif (!((qI a):Bool))then (some ((false,((0:Int),(0:Int)),false,false,((0:Int),(0:Int)),false,false),false,()))else (bif (!((inR b (0:Int) (IntKind.i64.wrap ((a.1:Int) - (1:Int)))):Bool))then (some ((false,((0:Int),(0:Int)),false,false,((0:Int),(0:Int)),false,false),false,()))else (chk (dy (a.1:Int) (a.2:Ze)) (iV N b false (0 0:Int) false false (0 0:Int) false false (fun (c:Int) (d:Ze)=>chk (gC (c,d) b) (some ((bX (c,d) b),true,()))) N (IntKind.i64.wrap ((a.1:Int) - (1:Int))) ((qS (a.1:Int) (a.2:Ze)).1:Int) ((qS (a.1:Int) (a.2:Ze)).2:Ze)))))
def Γ67:Gam:=[(31,g31),(62,g62),(68,g68),(69,g69),(72,g72)]
theorem Cw:Gam.get Γ67 31=some g31/\Gam.get Γ67 62=some g62/\Gam.get Γ67 68=some g68/\Gam.get Γ67 69=some g69/\Gam.get Γ67 72=some g72:=⟨rfl,rfl,rfl,rfl,rfl⟩
def u9:List Bool:=[O,I,O,O,I,O,I,I]
def Cx:Nm:=⟨u9,[],false⟩
theorem NQ:NmS Cx u9 [] false:=nmS
def Cy:List Bool:=[O,I,O,O,I,O,I]
def NR:Nm:=⟨Cy,[],false⟩
theorem q0k:NmS NR Cy [] false:=nmS
def Cz:Nat->Nm:=fun i=>if i=5 then Cx else ⟨[],[],false⟩
def CA:Nat->Option Nm:=fun i=>if i=0 then some NR else none
theorem p67:qi tr0 (Tryz.f67.body.getD .skip)=true:=by kernel_rfl
def T67 (N:Nat):Tab:={tr:=tr0,lp:=Cz,ex:=CA,rg:=rg0,jn:=jn0,fuel:=N}
theorem q2n (N:Nat):qj Tryz.prog (T67 N):=qn fun _=>rfl
theorem CB (N:Nat):qr (T67 N) tr0 Cz CA rg0 jn0 N false:=qt
def NS:Code:=cut [I,I,I,O,I,I,I] (Tryz.f67.body.getD .skip)
theorem qRv (N:Nat) (g:Int) (i:Bool) (j k:Int) (l m:Bool) (o a:Int) (b d:Bool) {k0:Int->(Ze)->ZO [i60,i4]} {Q:ZQ [i60,i4]} {c:Code} (s:c=NS) (t: ∀st,Q .ret st=qz tt true [i60,i4] [.cell 4 60,.tmp 5] st) (r: ∀(p:Int) (q:Ze),Q (.exit 0) ⟨[u,.one (.int .i64 g),u,u,.one (.ptr 0 0 0),u,.one (.ptr 1 0 0),u,u,u,u,u,u,u,u,u,u,u,u,u,u,u,u,u,u,u,u,u,u,u,u,u,u,u,u,u,u,u,u,u,u,u,u,u,u,u,u,u,u,u],[.box [.bool i,.int .i64 j,.int .i64 k,.bool l,.bool m,.int .i64 o,.int .i64 a,.bool b,.bool d],.box [.int .i64 p,.sl 68 Y68 q 2]]⟩=k0 p q): ∀(n:Nat) (h e:Int) (f:Ze),qw (qd tt Γ67 (T67 N) c) false Cx Q n ⟨[u,.one (.int .i64 g),u,u,.one (.ptr 0 0 0),u,.one (.ptr 1 0 0),.one (.int .i64 h),u,u,u,u,u,u,u,u,u,u,u,u,u,u,u,u,u,u,u,u,u,u,u,u,u,u,u,u,u,u,u,u,u,u,u,u,u,u,u,u,u,u],[.box [.bool i,.int .i64 j,.int .i64 k,.bool l,.bool m,.int .i64 o,.int .i64 a,.bool b,.bool d],.box [.int .i64 e,.sl 68 Y68 f 2]]⟩=iV N g i j k l m o a b d k0 n h e f:=by
 intro n;induction n with
 | zero=>intros;rfl
 | succ n v=>
   intro h e f
   rw [qD,qE s,iV];unfold NS Tryz.f67
   simp -implicitDefEqProofs [CB,CA,NQ,u9,q0k,Cy,Cw,g69,t,r,v]
theorem qUz (N:Nat) (d:Zj) (a:Int):qd tt Γ67 (T67 N) (Tryz.f67.body.getD .skip) (qk tt true [i60,i4] [.cell 4 60,.tmp 5]) (qm [i35,i3] 50 (d,a,()))=m67 N d a:=by
 unfold Tryz.f67
 simp -implicitDefEqProofs [CB,Cz,NQ,u9,Cw,g31,g62,g68]
 rewrite [qRv (k0:=(fun (b:Int) (c:Ze)=>chk (gC (b,c) a) (some ((bX (b,c) a),true,())))) N _ _ _ _ _ _ _ _ _ _ ?_ ?_ ?_]
 ·rewrite [m67];first | rfl | simp -implicitDefEqProofs []
 ·rfl
 ·intro;simp only [qA,qC,qJ]
 ·intro b c;simp -implicitDefEqProofs [CB,Cw,g72]
end
end Go.T
