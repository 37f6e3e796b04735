import Derived.Test.YtllelgnepalfjaaGreatB18
import Derived.Test.YtllelgnepalfjaaGreatT13
set_option linter.unusedSimpArgs false
set_option linter.unusedVariables false
namespace Go.T
noncomputable section
open Go Go.Proofs
set_option maxHeartbeats 4000000
set_option maxRecDepth 100000
def pH (x:Zb) (p:Int) (y:Zb) (q:Int):Prop:=x.length=y.length/\x.length<=1000/\(∀z∈x,qq z=true)/\(∀z∈y,qq z=true)/\(0<=p/\p<=400000000)/\(0<=q/\q<=400000000)
def wS:G:={ps:=[cw,i3,cw,i3],rs:=[cw,i4],dp:=true,pre:=fun x=>pH x.1 x.2.1 x.2.2.1 x.2.2.2.1,fn:=fun x=>((cmb x.1 x.2.1 x.2.2.1 x.2.2.2.1).1,(cmb x.1 x.2.1 x.2.2.1 x.2.2.2.1).2,())}
def jm (N:Nat) (c:Zb) (e:Int) (d:Zb) (f g:Int) (k0:(Zb)->ZO [cw,i4]):Nat->Int->(Zb)->ZO [cw,i4]
 | 0,_,_=>none
 | n+1,a,b=>bif (decide (a<g))then (chk (0<=a/\a<(c.length:Int)) (chk (0<=a/\a<(d.length:Int)) (chk (0<=a/\a<(b.length:Int)) (chk (a.toNat<b.length) (jm N c e d f g k0 n (IntKind.i64.wrap (a+(1:Int))) (b.set a.toNat (IntKind.i64.wrap ((IntKind.i64.wrap (e*((c.getD a.toNat (qa Zd)):Int)))+(IntKind.i64.wrap (f*((d.getD a.toNat (qa Zd)):Int)))))))))))else (k0 b)
def hR (N:Nat) (c d:Int) (k2:(Zb)->ZO [cw,i4]):Nat->Int->(Zb)->ZO [cw,i4]
 | 0,_,_=>none
 | n+1,a,b=>bif (decide (a<d))then (bif (decide ((0:Int)<c))then (chk (0<=a/\a<(b.length:Int)) (chk (a.toNat<b.length) (chk (c≠0) (chk (0<=a/\a<(b.length:Int)) (chk (a.toNat<b.length) (chk (0<=a/\a<((b.set a.toNat (IntKind.i64.wrap (((b.getD a.toNat (qa Zd)):Int).tdiv c))).length:Int)) (chk (a.toNat<(b.set a.toNat (IntKind.i64.wrap (((b.getD a.toNat (qa Zd)):Int).tdiv c))).length) (bif (!((qq (((b.set a.toNat (IntKind.i64.wrap (((b.getD a.toNat (qa Zd)):Int).tdiv c))).getD a.toNat (qa Zd)):Int)):Bool))then (some (([]:Zb),false,()))else (hR N c d k2 n (IntKind.i64.wrap (a+(1:Int))) (b.set a.toNat (IntKind.i64.wrap (((b.getD a.toNat (qa Zd)):Int).tdiv c))))))))))))else (chk (0<=a/\a<(b.length:Int)) (chk (a.toNat<b.length) (bif (!((qq ((b.getD a.toNat (qa Zd)):Int)):Bool))then (some (([]:Zb),false,()))else (hR N c d k2 n (IntKind.i64.wrap (a+(1:Int))) b)))))else (k2 b)
def wT (N:Nat) (a:Zb) (c:Int) (e:Zb) (f:Int):ZO [cw,i4]:=chk (0<=(a.length:Int)/\(a.length:Int)<=(a.length:Int)/\(a.length:Int)<=1048576) (jm N a c e f ((List.replicate (a.length:Int).toNat (qa Zd)).length:Int) (fun (b:Zb)=>chk (eE b) (hR N ((b7 b):Int) (b.length:Int) (fun (d:Zb)=>some (d,true,())) N (0:Int) b)) N (0:Int) (List.replicate (a.length:Int).toNat (qa Zd)))
def mR:Gam:=[(81,g81),(111,dx)]
theorem RT:Gam.get mR 81=some g81/\Gam.get mR 111=some dx:=⟨rfl,rfl⟩
def wU:List Bool:=[I,I,I,I,O,O,O,O,O,O,I,O,O,O,O,O,O,O,I,I]
def Gn:Nm:=⟨wU,[],false⟩
theorem RU:NmS Gn wU [] false:=nmS
def wV:List Bool:=[O,O,O,O,O,O,O,O,O,O,I,O,I,O,O,O,O,O,O,O,O,O,O,O,O,O,O,O,O,O,O,O,O,O,O,O,O,O,O,O,O,O,I,I]
def Gp:Nm:=⟨wV,[],false⟩
theorem RV:NmS Gp wV [] false:=nmS
def Gq:List Bool:=[O,O,O,O,O,O,O,O,O,O,I]
def RW:Nm:=⟨Gq,[],false⟩
theorem q0N:NmS RW Gq [] false:=nmS
def Gr:List Bool:=[O,O,O,O,O,O,O,O,O,O,I]
def RX:Nm:=⟨Gr,[],false⟩
theorem qWm:NmS RX Gr [] false:=nmS
def wW:Nat->Tree:=fun i=>if i=5 then .quiet 0 (.quiet 1 (.quiet 2 (.quiet 3 (.quiet 4 (.quiet 5 (.quiet 6 (.quiet 7 (.quiet 8 (.quiet 9 (.quiet 10 (.quiet 11 (.quiet 12 (.quiet 13 (.quiet 14 (.quiet 15 (.alt 16 .done .stop))))))))))))))))else .done
def wX:Nat->Nm:=fun i=>if i=3 then Gn else if i=9 then Gp else ⟨[],[],false⟩
def wY:Nat->Option Nm:=fun i=>if i=0 then some RW else if i=2 then some RX else none
theorem qQS:qi wW (Tryz.f118.body.getD .skip)=true:=by kernel_rfl
def mS (N:Nat):Tab:={tr:=wW,lp:=wX,ex:=wY,rg:=rg0,jn:=jn0,fuel:=N}
theorem qQh (N:Nat):qj Tryz.prog (mS N):=qn fun _=>rfl
theorem pI (N:Nat):qr (mS N) wW wX wY rg0 jn0 N false:=qt
def RY:Code:=cut [I,I,O,I,I,I] (Tryz.f118.body.getD .skip)
theorem qUe (N:Nat) (e:Zb) (f:Int) (g:Zb) (h i:Int) {k0:(Zb)->ZO [cw,i4]} {Q:ZQ [cw,i4]} {c:Code} (k:c=RY) (m: ∀st,Q .ret st=qz tt true [cw,i4] [.tmp 8,.tmp 9] st) (j: ∀(d:Zb),Q (.exit 0) ⟨[u,u,u,u,u,u,u,u,u,u,.one (.own 0),u,u,u,u,u,u,u,u,u,u,u,u,u,u,u,u,u,u,u,u,u,u,u,u,u,u,u,u,u,u,u,u,u,u,u,u,u,u,u,u,u,u,u,u,u,u,u,u,u,u,u,u],[.row 3 Zd d true true 0]⟩=k0 d): ∀(n:Nat) (b:Int) (a:Zb),qw (qd tt mR (mS N) c) false Gn Q n ⟨[.one (.sl 3 Zd e 1),.one (.int .i64 f),.one (.sl 3 Zd g 1),.one (.int .i64 h),u,u,u,u,u,u,.one (.own 0),u,u,u,u,u,u,u,.one (.int .i64 i),.one (.int .i64 b),u,u,u,u,u,u,u,u,u,u,u,u,u,u,u,u,u,u,u,u,u,u,u,u,u,u,u,u,u,u,u,u,u,u,u,u,u,u,u,u,u,u,u],[.row 3 Zd a true true 0]⟩=jm N e f g h i k0 n b a:=by
 intro n;induction n with
 | zero=>intros;rfl
 | succ n l=>
   intro b a
   rw [qD,qE k,jm];unfold RY Tryz.f118
   simp -implicitDefEqProofs [pI,wW,wY,RU,wU,q0N,Gq,j,l]
def RZ:Code:=cut [I,I,I,I,O,I,I,I] (Tryz.f118.body.getD .skip)
theorem qSl (N:Nat) (d e:Int) {k2:(Zb)->ZO [cw,i4]} {Q:ZQ [cw,i4]} {c:Code} (g:c=RZ) (h: ∀st,Q .ret st=qz tt true [cw,i4] [.tmp 8,.tmp 9] st) (h2: ∀(f:Zb),Q (.exit 2) ⟨[u,u,u,u,u,u,u,u,u,u,.one (.own 0),u,u,u,u,u,u,u,u,u,u,u,u,u,u,u,u,u,u,u,u,u,u,u,u,u,u,u,u,u,u,u,u,u,u,u,u,u,u,u,u,u,u,u,u,u,u,u,u,u,u,u,u],[.row 3 Zd f true true 0]⟩=k2 f): ∀(n:Nat) (a:Int) (b:Zb),qw (qd tt mR (mS N) c) false Gp Q n ⟨[u,u,u,u,u,u,u,u,u,u,.one (.own 0),u,.one (.int .i64 d),u,u,u,u,u,u,u,u,u,u,u,u,u,u,u,u,u,u,u,u,u,u,u,u,u,u,u,u,u,.one (.int .i64 e),.one (.int .i64 a),u,u,u,u,u,u,u,u,u,u,u,u,u,u,u,u,u,u,u],[.row 3 Zd b true true 0]⟩=hR N d e k2 n a b:=by
 intro n;induction n with
 | zero=>intros;rfl
 | succ n i=>
   intro a b
   rw [qD,qE g,hR];unfold RZ Tryz.f118
   simp -implicitDefEqProofs [pI,wY,RV,wV,qWm,Gr,RT,g81,h,h2,i]
theorem qSa (N:Nat) (c:Zb) (d:Int) (e:Zb) (f:Int):qd tt mR (mS N) (Tryz.f118.body.getD .skip) (qk tt true [cw,i4] [.tmp 8,.tmp 9]) (qm [cw,i3,cw,i3] 63 (c,d,e,f,()))=wT N c d e f:=by
 unfold Tryz.f118
 simp -implicitDefEqProofs [pI,wX,RU,wU]
 rewrite [qUe (k0:=(fun (a:Zb)=>chk (eE a) (hR N ((b7 a):Int) (a.length:Int) (fun (b:Zb)=>some (b,true,())) N (0:Int) a))) N _ _ _ _ _ ?_ ?_ ?_]
 ·rewrite [wT];first | rfl | simp -implicitDefEqProofs []
 ·rfl
 ·intro;simp only [qA,qC,qJ]
 ·intro a;simp -implicitDefEqProofs [pI,wX,RV,wV,RT,dx]
  rewrite [qSl (k2:=(fun (b:Zb)=>some (b,true,()))) N _ _ ?_ ?_ ?_]
  ·first | rfl | simp -implicitDefEqProofs []
  ·rfl
  ·intro;simp only [qA,qC,qJ]
  ·intro b;simp -implicitDefEqProofs [pI]
theorem q1K (N:Nat) {x y:Zb} {p q:Int} (h:pH x p y q) (K:Zb->ZO [cw,i4]) (n:Nat) (d:x.length<n):
 jm N x p y q x.length K n 0 (List.replicate x.length (qa Zd))=K (qu p q x y):=by
 obtain ⟨l,o,j,m,f,g⟩:=h
 have hm:=dz (p:=p) (q:=q) l
 have:=jY (xs:=(qu p q x y:Zb)) (F:=fun n i v=>jm N x p y q x.length K n i v) (k:=K) (qa Zd) (by rw [hm];omega) (fun n i v a b=> ?_) (fun n i v a=> ?_) n (by rw [hm];exact d)
 ·rw [hm]at this;exact this
 ·have a:i<x.length:=by rw [hm]at a;exact a
  have b:v.length=x.length:=by rw [hm]at b;exact b
  have c:i<y.length:=by omega
  rw [jm,qg (by omega),qc (by omega),qc (by omega),qc (by omega),qc (by rw [Int.toNat_natCast];omega),qB a,qB c,(iP f g (cH (j _ (List.getElem_mem a))) (cH (m _ (List.getElem_mem c)))).1]
  have e:(qu p q x y)[i]=p*x[i]+q*y[i]:=by simp [qu]
  simp only [e,Int.toNat_natCast]
 ·have a:x.length<=i:=by rw [hm]at a;exact a
  rw [jm,qf (by omega)]
theorem qV1 (g:Nat) (y:Int) (ys:List Int):dN (y::ys) g=(bif decide (0<(g:Int))then y.tdiv (g:Int)else y)::dN ys g:=by
 unfold dN
 cases decide (0<(g:Int))<;>rfl
theorem R0 (N g m:Nat) (hm:m<=1000) (K:Zb->ZO [cw,i4]): ∀(a pre:Zb),pre.length+a.length=m->(∀z∈a,inI z)-> ∀n,a.length<n->
 hR N g m K n pre.length (pre++a)=bif (dN a g).all qq then K (pre++dN a g)else some (([]:Zb),false,())
 | [],pre,h,_,n+1,_=>by
   simp only [List.length_nil]at h
   have e:dN [] g=[]:=by unfold dN;cases decide (0<(g:Int))<;>rfl
   rw [hR,qf (by omega),e]
   rfl
 | y::a,pre,h,i,n+1,l=>by
   have o:(pre++y::a).length=m:=by rw [List.length_append];exact h
   have h1:pre.length<m:=by simp only [List.length_cons]at h;omega
   have c: ∀dv:Zc,(pre++y::a).getD pre.length dv=y:=fun dv=>fm pre y a dv
   have j:=fun z:Zc=>R0 N g m hm K a (pre++[z]) (by simp only [List.length_append,List.length_cons,List.length_nil]at h ⊢;omega) (fun u hu=>i u (by simp [hu])) n (by simp only [List.length_cons]at l;omega)
   have b: ∀z:Zc,(((pre++[z]).length:Nat):Int)=((pre.length+1:Nat):Int):=fun z=>by simp
   rw [hR,qg (by omega),qV1]
   by_cases d:(0:Int)<(g:Int)
   ·have k:(g:Int)≠0:=by omega
    have gd: ∀z dv:Zc,(pre++z::a).getD pre.length dv=z:=fun z dv=>fm pre z a dv
    have f: ∀z:Zc,(pre++z::a).length=m:=fun z=>by rw [List.length_append];exact h
    simp only [decide_eq_true d,cond_true]
    rw [qc (by omega),qc (by rw [Int.toNat_natCast];omega),qc k,qc (by omega),qc (by rw [Int.toNat_natCast];omega),Int.toNat_natCast,c,di (i y (by simp)),mG,gd,qc (by rw [f];omega),qc (by rw [f];omega),List.all_cons]
    cases qq ((y:Int).tdiv (g:Int))with
    | false=>rfl
    | true=>
      simp only [Bool.not_true,cond_false,Bool.true_and]
      rw [b3 h1 (by omega)]
      have:=j ((y:Int).tdiv (g:Int))
      rw [b,List.append_assoc]at this
      refine (show _=_ from this).trans ?_
      simp
   ·simp only [decide_eq_false d,cond_false]
    rw [qc (by omega),qc (by rw [Int.toNat_natCast];omega),Int.toNat_natCast,c,List.all_cons]
    cases qq y with
    | false=>rfl
    | true=>
      simp only [Bool.not_true,cond_false,Bool.true_and]
      rw [b3 h1 (by omega)]
      have:=j y
      rw [b,List.append_assoc]at this
      refine (show _=_ from this).trans ?_
      simp
theorem qTL (x:Zb) (p:Int) (y:Zb) (q:Int) (h:pH x p y q): ∃N,wT N x p y q=some ((cmb x p y q).1,(cmb x p y q).2,()):=⟨1002,by
 have h':=h
 obtain ⟨f,j,e,g,c,d⟩:=h'
 have hm:=dz (p:=p) (q:=q) f
 have b:=uj (xs:=x) (ys:=y) c d (fun z a=>cH (e z a)) fun z a=>cH (g z a)
 rw [wT,qc (by omega),Int.toNat_natCast,List.length_replicate,q1K _ h _ _ (by omega),qc (show eE (qu p q x y) from ⟨by rw [hm];omega,b⟩)]
 have t:=R0 1002 (gL 0 (qu p q x y)) (qu p q x y).length (by omega) (fun i=>some (i,true,())) (qu p q x y) [] (by simp) b 1002 (by omega)
 refine (show _=_ from t).trans ?_
 unfold cmb
 cases (dN (qu p q x y) (gL 0 (qu p q x y))).all qq<;>rfl⟩
theorem q1w:Sound Tryz.prog 118 wS:=qo (tt:=tt) (Γ:=mR) hT (qe s81 (qe n5 ql)) hm (fn:=Tryz.f118) Tryz.func118 (c:=Tryz.f118.body.getD .skip) (by kernel_rfl) (by kernel_rfl) fun x a=>by
 obtain ⟨N,h⟩:=qTL x.1 x.2.1 x.2.2.1 x.2.2.2.1 a
 exact ⟨mS N,qQS,qp _,qQh N,(qSa N x.1 x.2.1 x.2.2.1 x.2.2.2.1).trans h⟩
def da (w:Nat) (l:Za):Prop:=l.length<=64/\ ∀x∈l,x.length=w/\ ∀z∈x,qq z=true
def jo (l:Za) (v:Int):Za×Bool:=match iW v l with
 | some l=>(l,true)
 | none=>([],false)
def wZ (l:Za) (v:Int):Prop:= ∃w:Nat,w<=100/\da w l/\0<=v/\v<w
def g89:G:={ps:=[b5,i3],rs:=[b5,i4],dp:=false,pre:=fun x=>wZ x.1 x.2.1,fn:=fun x=>((jo x.1 x.2.1).1,(jo x.1 x.2.1).2,())}
def jq (N:Nat) (f:List (Val (.slice 3 Zd))) (c:Int) (b:List (Val (.slice 3 Zd))) (e:Int) (k0:(List (Val (.slice 3 Zd)))->ZO [b5,i4]):Nat->Int->(List (Val (.slice 3 Zd)))->ZO [b5,i4]
 | 0,_,_=>none
 | n+1,a,d=>bif (decide (a<e))then (chk (0<=a/\a<(b.length:Int)) (chk (0<=c/\c<(((b.getD a.toNat (qa (.slice 3 Zd))):Zb).length:Int)) (bif (decide (((((b.getD a.toNat (qa (.slice 3 Zd))):Zb).getD c.toNat (qa Zd)):Int)=(0:Int)))then (chk (d.length+([((b.getD a.toNat (qa (.slice 3 Zd))):Zb)]:List (Val (.slice 3 Zd))).length<=1048576) (jq N f c b e k0 n (IntKind.i64.wrap (a+(1:Int))) (d++([((b.getD a.toNat (qa (.slice 3 Zd))):Zb)]:List (Val (.slice 3 Zd))))))else (jq N f c b e k0 n (IntKind.i64.wrap (a+(1:Int))) d))))else (k0 d)
def jr (N:Nat) (g:List (Val (.slice 3 Zd))) (a:Int) (d:Zb) (h:List (Val (.slice 3 Zd))) (i j:Int) (c:List (Val (.slice 3 Zd))) (f:Int) (k4:(List (Val (.slice 3 Zd)))->ZO [b5,i4]):Nat->Int->(List (Val (.slice 3 Zd)))->ZO [b5,i4]
 | 0,_,_=>none
 | n+1,b,e=>bif (decide (b<f))then (chk (0<=b/\b<(c.length:Int)) (chk (0<=a/\a<(((c.getD b.toNat (qa (.slice 3 Zd))):Zb).length:Int)) (bif (decide ((0:Int)<=((((c.getD b.toNat (qa (.slice 3 Zd))):Zb).getD a.toNat (qa Zd)):Int)))then (jr N g a d h i j c f k4 n (IntKind.i64.wrap (b+(1:Int))) e)else (chk (0<=a/\a<(((c.getD b.toNat (qa (.slice 3 Zd))):Zb).length:Int)) (chk (0<=a/\a<(d.length:Int)) (chk (pH d (IntKind.i64.wrap (0 - ((((c.getD b.toNat (qa (.slice 3 Zd))):Zb).getD a.toNat (qa Zd)):Int))) ((c.getD b.toNat (qa (.slice 3 Zd))):Zb) ((d.getD a.toNat (qa Zd)):Int)) (bif (!((cmb d (IntKind.i64.wrap (0 - ((((c.getD b.toNat (qa (.slice 3 Zd))):Zb).getD a.toNat (qa Zd)):Int))) ((c.getD b.toNat (qa (.slice 3 Zd))):Zb) ((d.getD a.toNat (qa Zd)):Int)).2:Bool))then (some (([]:List (Val (.slice 3 Zd))),false,()))else (bif (decide ((e.length:Int)=(64:Int)))then (some (([]:List (Val (.slice 3 Zd))),false,()))else (chk (e.length+([((cmb d (IntKind.i64.wrap (0 - ((((c.getD b.toNat (qa (.slice 3 Zd))):Zb).getD a.toNat (qa Zd)):Int))) ((c.getD b.toNat (qa (.slice 3 Zd))):Zb) ((d.getD a.toNat (qa Zd)):Int)).1:Zb)]:List (Val (.slice 3 Zd))).length<=1048576) (jr N g a d h i j c f k4 n (IntKind.i64.wrap (b+(1:Int))) (e++([((cmb d (IntKind.i64.wrap (0 - ((((c.getD b.toNat (qa (.slice 3 Zd))):Zb).getD a.toNat (qa Zd)):Int))) ((c.getD b.toNat (qa (.slice 3 Zd))):Zb) ((d.getD a.toNat (qa Zd)):Int)).1:Zb)]:List (Val (.slice 3 Zd))))))))))))))else (k4 e)
def gJ (N:Nat) (d:List (Val (.slice 3 Zd))) (c:Int) (b:List (Val (.slice 3 Zd))) (e:Int) (k2:(List (Val (.slice 3 Zd)))->ZO [b5,i4]):Nat->Int->(List (Val (.slice 3 Zd)))->ZO [b5,i4]
 | 0,_,_=>none
 | n+1,a,f=>bif (decide (a<e))then (chk (0<=a/\a<(b.length:Int)) (chk (0<=c/\c<(((b.getD a.toNat (qa (.slice 3 Zd))):Zb).length:Int)) (bif (decide (((((b.getD a.toNat (qa (.slice 3 Zd))):Zb).getD c.toNat (qa Zd)):Int)<=(0:Int)))then (gJ N d c b e k2 n (IntKind.i64.wrap (a+(1:Int))) f)else (jr N d c ((b.getD a.toNat (qa (.slice 3 Zd))):Zb) b e a d (d.length:Int) (fun (g:List (Val (.slice 3 Zd)))=>gJ N d c b e k2 n (IntKind.i64.wrap (a+(1:Int))) g) N (0:Int) f))))else (k2 f)
def m89 (N:Nat) (a:List (Val (.slice 3 Zd))) (b:Int):ZO [b5,i4]:=jq N a b a (a.length:Int) (fun (d:List (Val (.slice 3 Zd)))=>gJ N a b a (a.length:Int) (fun (c:List (Val (.slice 3 Zd)))=>some (c,true,())) N (0:Int) d) N (0:Int) ([]:List (Val (.slice 3 Zd)))
def Γ89:Gam:=[(118,wS)]
theorem qUp:Gam.get Γ89 118=some wS:=rfl
def w1:List Bool:=[I,I,O,O,O,O,I,O,O,O,O,O,O,O,O,O,I,I,I]
def Gs:Nm:=⟨w1,[.und 6 0 111 (.slice 3 Zd)],false⟩
theorem R1:NmS Gs w1 [.und 6 0 111 (.slice 3 Zd)] false:=nmS
def w2:List Bool:=[I,I,O,O,O,O,I,O,O,O,I,O,O,O,O,O,O,O,O,O,O,O,O,O,O,O,O,O,O,O,O,O,I,I,I,O,O,O,O,O,O,O,O,I,I,I]
def Gt:Nm:=⟨w2,[],false⟩
theorem R2:NmS Gt w2 [] false:=nmS
def pJ:List Bool:=[I,I,O,O,O,O,I,O,O,O,O,O,O,O,O,O,O,O,O,O,O,O,O,O,O,O,O,O,O,O,O,O,I,I,I]
def Gu:Nm:=⟨pJ,[],false⟩
theorem Gv:NmS Gu pJ [] false:=nmS
def Gx:List Bool:=[I,I,O,O,O,O,I]
def R3:Nm:=⟨Gx,[],false⟩
theorem qM9:NmS R3 Gx [] false:=nmS
def Gy:List Bool:=[O,O,O,O,O,O,I]
def R4:Nm:=⟨Gy,[],false⟩
theorem qYF:NmS R4 Gy [] false:=nmS
def Gz:List Bool:=[I,I,O,O,O,O,I,O,O,O,O,O,O,O,O,O,O,O,O,O,O,O,O,O,O,O,O,O,O,O,O,O,I,I,I]
def R5:Nm:=⟨Gz,[],false⟩
theorem qRq:NmS R5 Gz [] false:=nmS
def w3:Nat->Tree:=fun i=>if i=16 then .quiet 0 (.quiet 1 (.quiet 2 (.quiet 3 (.quiet 4 (.quiet 5 (.quiet 6 (.quiet 7 (.quiet 8 (.quiet 9 (.quiet 10 (.alt 11 (.quiet 12 (.quiet 13 (.quiet 14 (.quiet 15 (.quiet 16 .done))))) .stop)))))))))))else .done
def pK:Nat->Nm:=fun i=>if i=3 then Gs else if i=13 then Gt else if i=9 then Gu else ⟨[],[],false⟩
def pL:Nat->Option Nm:=fun i=>if i=0 then some R3 else if i=2 then some R4 else if i=4 then some R5 else none
theorem p89:qi w3 (Tryz.f89.body.getD .skip)=true:=by kernel_rfl
def T89 (N:Nat):Tab:={tr:=w3,lp:=pK,ex:=pL,rg:=rg0,jn:=jn0,fuel:=N}
theorem qN4 (N:Nat):qj Tryz.prog (T89 N):=qn fun _=>rfl
theorem kZ (N:Nat):qr (T89 N) w3 pK pL rg0 jn0 N false:=qt
def R6:Code:=cut [I,I,O,I,I,I] (Tryz.f89.body.getD .skip)
theorem q1b (N:Nat) (a:List (Val (.slice 3 Zd))) (b:Int) (f:List (Val (.slice 3 Zd))) (g:Int) {k0:(List (Val (.slice 3 Zd)))->ZO [b5,i4]} {Q:ZQ [b5,i4]} {c:Code} (j:c=R6) (l: ∀st,Q .ret st=qz tt false [b5,i4] [.tmp 4,.tmp 5] st) (i: ∀(h:List (Val (.slice 3 Zd))),Q (.exit 0) ⟨[.one (.sl 111 (.slice 3 Zd) a 1),.one (.int .i64 b),u,u,u,u,.one (.own 0),u,u,u,u,u,u,u,u,u,u,u,u,u,u,u,u,u,u,u,u,u,u,u,u,u,u,u,u,u,u,u,u,u,u,u,u,u,u,u,u,u,u,u,u,u,u,u,u,u,u,u,u,u,u,u,u,u,u,u,u,u,u,u,u,u,u,u,u,u,u,u,u,u,u,u,u],[.row 111 (.slice 3 Zd) h false true 1]⟩=k0 h): ∀(n:Nat) (d:Int) (e:List (Val (.slice 3 Zd))),qw (qd tt Γ89 (T89 N) c) false Gs Q n ⟨[.one (.sl 111 (.slice 3 Zd) a 1),.one (.int .i64 b),u,u,u,u,.one (.own 0),u,u,u,u,u,u,u,u,u,.one (.sl 111 (.slice 3 Zd) f 1),.one (.int .i64 g),.one (.int .i64 d),u,u,u,u,u,u,u,u,u,u,u,u,u,u,u,u,u,u,u,u,u,u,u,u,u,u,u,u,u,u,u,u,u,u,u,u,u,u,u,u,u,u,u,u,u,u,u,u,u,u,u,u,u,u,u,u,u,u,u,u,u,u,u,u],[.row 111 (.slice 3 Zd) e false true 1]⟩=jq N a b f g k0 n d e:=by
 intro n;induction n with
 | zero=>intros;rfl
 | succ n k=>
   intro d e
   rw [qD,qE j,jq];unfold R6 Tryz.f89
   simp -implicitDefEqProofs [kZ,pL,R1,w1,qM9,Gx,i,k]
def R7:Code:=cut [I,I,I,O,I,I,I,I,I,O,I,I,I,I,I,I] (Tryz.f89.body.getD .skip)
theorem q14 (N:Nat) (a:List (Val (.slice 3 Zd))) (b:Int) (i:Zb) (d:List (Val (.slice 3 Zd))) (e f:Int) (j:List (Val (.slice 3 Zd))) (k:Int) {k4:(List (Val (.slice 3 Zd)))->ZO [b5,i4]} {Q:ZQ [b5,i4]} {c:Code} (o:c=R7) (p: ∀st,Q .ret st=qz tt false [b5,i4] [.tmp 4,.tmp 5] st) (m: ∀(l:List (Val (.slice 3 Zd))),Q (.exit 4) ⟨[.one (.sl 111 (.slice 3 Zd) a 1),.one (.int .i64 b),u,u,u,u,.one (.own 0),u,u,u,u,u,u,u,u,u,u,u,u,u,u,u,u,u,u,u,u,u,u,u,u,u,.one (.sl 111 (.slice 3 Zd) d 1),.one (.int .i64 e),.one (.int .i64 f),u,u,u,u,u,u,u,u,u,u,u,u,u,u,u,u,u,u,u,u,u,u,u,u,u,u,u,u,u,u,u,u,u,u,u,u,u,u,u,u,u,u,u,u,u,u,u,u],[.row 111 (.slice 3 Zd) l false true 1]⟩=k4 l): ∀(n:Nat) (g:Int) (h:List (Val (.slice 3 Zd))),qw (qd tt Γ89 (T89 N) c) false Gt Q n ⟨[.one (.sl 111 (.slice 3 Zd) a 1),.one (.int .i64 b),u,u,u,u,.one (.own 0),u,u,u,.one (.sl 3 Zd i 1),u,u,u,u,u,u,u,u,u,u,u,u,u,u,u,u,u,u,u,u,u,.one (.sl 111 (.slice 3 Zd) d 1),.one (.int .i64 e),.one (.int .i64 f),u,u,u,u,u,u,u,u,.one (.sl 111 (.slice 3 Zd) j 1),.one (.int .i64 k),.one (.int .i64 g),u,u,u,u,u,u,u,u,u,u,u,u,u,u,u,u,u,u,u,u,u,u,u,u,u,u,u,u,u,u,u,u,u,u,u,u,u],[.row 111 (.slice 3 Zd) h false true 1]⟩=jr N a b i d e f j k k4 n g h:=by
 intro n;induction n with
 | zero=>intros;rfl
 | succ n q=>
   intro g h
   rw [qD,qE o,jr];unfold R7 Tryz.f89
   simp -implicitDefEqProofs [kZ,w3,pL,R2,w2,qRq,Gz,qUp,wS,p,m,q]
def R8:Code:=cut [I,I,I,O,I,I,I] (Tryz.f89.body.getD .skip)
theorem qXH (N:Nat) (d:List (Val (.slice 3 Zd))) (e:Int) (f:List (Val (.slice 3 Zd))) (g:Int) {k2:(List (Val (.slice 3 Zd)))->ZO [b5,i4]} {Q:ZQ [b5,i4]} {c:Code} (k:c=R8) (l: ∀st,Q .ret st=qz tt false [b5,i4] [.tmp 4,.tmp 5] st) (h2: ∀(j:List (Val (.slice 3 Zd))),Q (.exit 2) ⟨[u,u,u,u,u,u,.one (.own 0),u,u,u,u,u,u,u,u,u,u,u,u,u,u,u,u,u,u,u,u,u,u,u,u,u,u,u,u,u,u,u,u,u,u,u,u,u,u,u,u,u,u,u,u,u,u,u,u,u,u,u,u,u,u,u,u,u,u,u,u,u,u,u,u,u,u,u,u,u,u,u,u,u,u,u,u],[.row 111 (.slice 3 Zd) j false true 1]⟩=k2 j): ∀(n:Nat) (a:Int) (h:List (Val (.slice 3 Zd))),qw (qd tt Γ89 (T89 N) c) false Gu Q n ⟨[.one (.sl 111 (.slice 3 Zd) d 1),.one (.int .i64 e),u,u,u,u,.one (.own 0),u,u,u,u,u,u,u,u,u,u,u,u,u,u,u,u,u,u,u,u,u,u,u,u,u,.one (.sl 111 (.slice 3 Zd) f 1),.one (.int .i64 g),.one (.int .i64 a),u,u,u,u,u,u,u,u,u,u,u,u,u,u,u,u,u,u,u,u,u,u,u,u,u,u,u,u,u,u,u,u,u,u,u,u,u,u,u,u,u,u,u,u,u,u,u,u],[.row 111 (.slice 3 Zd) h false true 1]⟩=gJ N d e f g k2 n a h:=by
 intro n;induction n with
 | zero=>intros;rfl
 | succ n b=>
   intro a h
   rw [qD,qE k];unfold R8 Tryz.f89
   simp -implicitDefEqProofs [kZ,pK,pL,R2,w2,Gv,pJ,qYF,Gy,h2,b]
   rewrite [q14 (k4:=(fun (i:List (Val (.slice 3 Zd)))=>gJ N d e f g k2 n (IntKind.i64.wrap (a+(1:Int))) i)) N _ _ _ _ _ _ _ _ ?_ ?_ ?_]
   ·rewrite [gJ];first | rfl | simp -implicitDefEqProofs [b]
   ·rfl
   ·intro;simp only [qA,qC,l]
   ·intro i;simp -implicitDefEqProofs [kZ,Gv,pJ,b]
theorem qNo (N:Nat) (a:List (Val (.slice 3 Zd))) (b:Int):qd tt Γ89 (T89 N) (Tryz.f89.body.getD .skip) (qk tt false [b5,i4] [.tmp 4,.tmp 5]) (qm [b5,i3] 83 (a,b,()))=m89 N a b:=by
 unfold Tryz.f89
 simp -implicitDefEqProofs [kZ,pK,R1,w1]
 rewrite [q1b N _ _ _ _ ?_ ?_ ?_]
 ·rewrite [m89];first | rfl | simp -implicitDefEqProofs []
 ·rfl
 ·intro;simp only [qA,qC,qJ]
 ·intro d;simp -implicitDefEqProofs [kZ,pK,Gv,pJ]
  rewrite [qXH N _ _ _ _ ?_ ?_ ?_]
  ·first | rfl | simp -implicitDefEqProofs []
  ·rfl
  ·intro;simp only [qA,qC,qJ]
  ·intro c;simp -implicitDefEqProofs [kZ]
abbrev R9:ZO [b5,i4]:=some (([]:Za),false,())
theorem w4 {α ρ:Type} {p:α->Bool} {k:List α->Option ρ}: ∀(xs:List α) (i:Nat) (s:List α),s.length+xs.length<=1048576->
 q5 (fun _ (x:α) (s:List α) K=>bif p x then chk (s.length+[x].length<=1048576) (K (s++[x]))else K s) i xs s k=k (s++xs.filter p)
 | [],_,s,_=>by rw [q5];simp
 | x::xs,i,s,h=>by
   simp only [List.length_cons]at h
   rw [q5,List.filter_cons]
   cases a:p x with
   | true=>simp only [cond_true];rw [qc (by simp;omega),w4 xs _ _ (by simp;omega)];simp
   | false=>simp only [cond_false];rw [w4 xs _ _ (by omega)];simp
theorem w5 {x:Zb} {v:Int} (h: ∀z∈x,qq z=true) (a:0<=v/\v<(x.length:Int)):qq (cAt v x)=true:=by
 unfold cAt
 rw [List.getD_eq_getElem?_getD,List.getElem?_eq_getElem (show v.toNat<List.length (α:=Int) x by show v.toNat<x.length;omega)]
 exact h _ (List.getElem_mem _)
theorem qVo {x y:Zb} {p q:Int} (b:x.length=y.length) (h:(cmb x p y q).2=true):(cmb x p y q).1.length=x.length/\ ∀z∈(cmb x p y q).1,qq z=true:=by
 unfold cmb at*
 cases a:(dN (qu p q x y) (gL 0 (qu p q x y))).all qq with
 | false=>rw [a]at h;simp at h
 | true=>
   simp only [cond_true]
   refine ⟨?_,fun z c=>List.all_eq_true.1 a z c⟩
   have: ∀(s:List Int) (g:Nat),(dN s g).length=s.length:=fun s g=>by unfold dN;cases decide (0<(g:Int))<;>simp
   rw [this,dz b]
theorem Sa (N:Nat) (l:Za) (v:Int) (w:Nat) (hw:w<=100) (d:da w l) (b:0<=v/\v<w) (x:Zb) (a:x.length=w/\ ∀z∈x,qq z=true) (r:0<cAt v x) (m:Za) (o p:Int) (K:Za->ZO [b5,i4]): ∀(k i:Nat),i+k=l.length-> ∀n,k<n-> ∀s:Za,s.length<=64->
 jr N l v x m o p l l.length K n i s=match fi v x (l.drop i) s with
  | some t=>K t
  | none=>R9
 | 0,i,q,n+1,_,s,_=>by
   rw [jr,qf (by omega),List.drop_eq_nil_of_le (by omega)]
   rfl
 | k+1,i,q,n+1,y,s,hs=>by
   have u:=d.1
   have h1:i<l.length:=by omega
   obtain ⟨c,h⟩:=d.2 _ (List.getElem_mem h1)
   have B:=cH (w5 h (by rw [c];exact b))
   have A:=cH (w5 a.2 (by rw [a.1];exact b))
   have e: ∀z:Zb,List.getD (α:=Zc) z v.toNat (qa Zd)=cAt v z:=fun _=>rfl
   have j:=Sa N l v w hw d b x a r m o p K k (i+1) (by omega) n (by omega)
   rw [jr,qg (by omega),qc (by omega),qB h1,qc (by rw [c];exact b),e,cL h1,fi,b3 h1 (by omega)]
   by_cases g:cAt v l[i]<0
   ·rw [qf (show ¬0<=cAt v l[i] by omega),qg g,qc (by rw [c];exact b),qc (by rw [a.1];exact b),e,hp (by unfold inI;omega)]
    rw [qc (show pH x (-cAt v l[i]) l[i] (cAt v x) from ⟨by rw [a.1,c],by rw [a.1];omega,a.2,h,⟨by omega,by omega⟩,by omega,by omega⟩)]
    cases hm:(cmb x (-cAt v l[i]) l[i] (cAt v x)).2 with
    | false=>rfl
    | true=>
      simp only [Bool.not_true,cond_false]
      by_cases f:(s.length:Int)=64
      ·rw [qg f,decide_eq_false (show ¬(s.length:Int)<64 by omega)]
       rfl
      ·rw [qf f,decide_eq_true (show (s.length:Int)<64 by omega),qc (by rw [List.length_singleton];omega)]
       exact j _ (by rw [List.length_append,List.length_singleton];omega)
   ·rw [qg (show 0<=cAt v l[i] by omega),qf g]
    exact j s hs
theorem w6 {v:Int} {w:Nat} {x:Zb} (b:x.length=w): ∀{l s c:Za},(∀y∈l,y.length=w)->da w s->fi v x l s=some c->da w c
 | [],s,c,_,hs,h=>by simp only [fi,Option.some.injEq]at h;subst h;exact hs
 | y::l,s,c,e,hs,h=>by
   rw [fi]at h
   have f:=fun z a=>e z (List.mem_cons_of_mem y a)
   cases g:decide (cAt v y<0)with
   | false=>rw [g]at h;exact w6 b f hs h
   | true=>
     rw [g]at h
     simp only [cond_true]at h
     cases hm:(cmb x (-cAt v y) y (cAt v x)).2 with
     | false=>rw [hm]at h;simp at h
     | true=>
       by_cases d:(s.length:Int)<64
       ·rw [hm,decide_eq_true d]at h
        simp only [Bool.and_self,cond_true]at h
        obtain ⟨g1,g2⟩:=qVo (by rw [b,e y (by simp)]) hm
        refine w6 b f ⟨by rw [List.length_append,List.length_singleton];omega,fun z a=> ?_⟩ h
        rcases List.mem_append.1 a with a | a
        ·exact hs.2 z a
        ·rw [List.mem_singleton.1 a];exact ⟨g1.trans b,g2⟩
       ·rw [decide_eq_false d,Bool.and_false]at h;simp at h
theorem GA {v:Int} {w:Nat} {l:Za} (c: ∀y∈l,y.length=w): ∀{xs s a:Za},(∀x∈xs,x.length=w)->da w s->fJ v l xs s=some a->da w a
 | [],s,a,_,hs,h=>by simp only [fJ,Option.some.injEq]at h;subst h;exact hs
 | x::xs,s,a,e,hs,h=>by
   rw [fJ]at h
   have f:=fun z g=>e z (List.mem_cons_of_mem x g)
   cases d:decide (0<cAt v x)with
   | false=>rw [d]at h;exact GA c f hs h
   | true=>
     rw [d]at h
     simp only [cond_true]at h
     cases b:fi v x l s with
     | none=>rw [b]at h;simp at h
     | some s1=>
       rw [b]at h
       exact GA c f (w6 (e x (by simp)) c hs b) h
theorem Sb {w:Nat} {l:Za} (p:Zb->Bool) (h:da w l):da w (l.filter p):=
 ⟨Nat.le_trans (List.length_filter_le _ _) h.1,fun x a=>h.2 x (List.mem_filter.1 a).1⟩
theorem Sc {v:Int} {w:Nat} {l c:Za} (a:da w l) (h:iW v l=some c):da w c:=
 GA (fun y b=>(a.2 y b).1) (fun y b=>(a.2 y b).1) (Sb _ a) h
theorem Sd (N:Nat) (g:100<=N) (l:Za) (v:Int) (w:Nat) (hw:w<=100) (a:da w l) (c:0<=v/\v<w) (K:Za->ZO [b5,i4]): ∀(k i:Nat),i+k=l.length-> ∀n,k<n-> ∀s:Za,da w s->
 gJ N l v l l.length K n i s=match fJ v l (l.drop i) s with
  | some o=>K o
  | none=>R9
 | 0,i,h,n+1,_,s,_=>by
   rw [gJ,qf (by omega),List.drop_eq_nil_of_le (by omega)]
   rfl
 | k+1,i,h,n+1,q,s,hs=>by
   have p:=a.1
   have h1:i<l.length:=by omega
   obtain ⟨d,m⟩:=a.2 _ (List.getElem_mem h1)
   have f: ∀z:Zb,List.getD (α:=Zc) z v.toNat (qa Zd)=cAt v z:=fun _=>rfl
   have e:=Sd N g l v w hw a c K k (i+1) (by omega) n (by omega)
   rw [gJ,qg (by omega),qc (by omega),qB h1,qc (by rw [d];exact c),f,cL h1,fJ,b3 h1 (by omega)]
   by_cases b:0<cAt v l[i]
   ·rw [qf (show ¬cAt v l[i]<=0 by omega),qg b]
    refine (show _=_ from Sa N l v w hw a c l[i] ⟨d,m⟩ b l l.length i _ l.length 0 (by omega) N (by omega) s hs.1).trans ?_
    rw [List.drop_zero]
    cases hm:fi v l[i] l s with
    | none=>rfl
    | some s1=>exact e s1 (w6 d (fun y j=>(a.2 y j).1) hs hm)
   ·rw [qg (show cAt v l[i]<=0 by omega),qf b]
    exact e s hs
theorem e89 (l:Za) (v:Int) (h:wZ l v): ∃N,m89 N l v=some ((jo l v).1,(jo l v).2,()):=⟨100,by
 obtain ⟨w,hw,a,c⟩:=h
 have g:=a.1
 rw [m89]
 refine (bp (xs:=l) (F:=fun n i s=>jq 100 l v l l.length _ n i s) (step:=fun _ x s K=>bif decide (cAt v x=0)then chk (s.length+[x].length<=1048576) (K (s++[x]))else K s) (k:=fun f=>gJ 100 l v l l.length (fun e=>some (e,true,())) 100 0 f) (by omega) (fun n i s b=> ?_) (fun n i s b=> ?_) 100 [] (by omega)).trans ((w4 l 0 [] (by simp;omega)).trans ?_)
 ·have d:=(a.2 _ (List.getElem_mem b)).1
  rw [jq,qg (by omega),qc (by omega),qB b,qc (by rw [d];exact c)]
  rfl
 ·rw [jq,qf (by omega)]
 ·rw [List.nil_append]
  refine (show _=_ from Sd 100 (by omega) l v w hw a c _ l.length 0 (by omega) 100 (by omega) _ (Sb _ a)).trans ?_
  rw [List.drop_zero]
  unfold jo iW
  cases fJ v l l (List.filter (fun x=>decide (cAt v x=0)) l)<;>rfl⟩
theorem s89:Sound Tryz.prog 89 g89:=qo (tt:=tt) (Γ:=Γ89) hT (qe q1w ql) hm (fn:=Tryz.f89) Tryz.func89 (c:=Tryz.f89.body.getD .skip) (by kernel_rfl) (by kernel_rfl) fun x a=>by
 obtain ⟨N,h⟩:=e89 x.1 x.2.1 a
 exact ⟨T89 N,p89,qp _,qN4 N,(qNo N x.1 x.2.1).trans h⟩
def g49:G:={ps:=[i35],rs:=[i25,i4],dp:=true,pre:=fun _=>True,fn:=fun x=>((cj x.1).1,(cj x.1).2,())}
def js (N:Nat) (c:Ze) (f b:Int) (d:Ze) (k0:(List (Val (.slice 3 Zd)))->ZO [i25,i4]):Nat->Int->(List (Val (.slice 3 Zd)))->ZO [i25,i4]
 | 0,_,_=>none
 | n+1,a,e=>bif (decide (a<f))then (chk (0<=a/\a<(c.length:Int)) (chk (0<=(IntKind.i64.wrap ((IntKind.i64.wrap (b+(1:Int)))+(d.length:Int)))/\(IntKind.i64.wrap ((IntKind.i64.wrap (b+(1:Int)))+(d.length:Int)))<=(IntKind.i64.wrap ((IntKind.i64.wrap (b+(1:Int)))+(d.length:Int)))/\(IntKind.i64.wrap ((IntKind.i64.wrap (b+(1:Int)))+(d.length:Int)))<=1048576) (chk (((c.getD a.toNat (qa Y68)).1:Zb).length<=(List.replicate (IntKind.i64.wrap ((IntKind.i64.wrap (b+(1:Int)))+(d.length:Int))).toNat (qa Zd)).length) (chk (0<=b/\b<((((c.getD a.toNat (qa Y68)).1:Zb)++List.drop ((c.getD a.toNat (qa Y68)).1:Zb).length (List.replicate (IntKind.i64.wrap ((IntKind.i64.wrap (b+(1:Int)))+(d.length:Int))).toNat (qa Zd))).length:Int)) (chk (b.toNat<(((c.getD a.toNat (qa Y68)).1:Zb)++List.drop ((c.getD a.toNat (qa Y68)).1:Zb).length (List.replicate (IntKind.i64.wrap ((IntKind.i64.wrap (b+(1:Int)))+(d.length:Int))).toNat (qa Zd))).length) (chk (0<=(IntKind.i64.wrap ((IntKind.i64.wrap (b+(1:Int)))+a))/\(IntKind.i64.wrap ((IntKind.i64.wrap (b+(1:Int)))+a))<(((((c.getD a.toNat (qa Y68)).1:Zb)++List.drop ((c.getD a.toNat (qa Y68)).1:Zb).length (List.replicate (IntKind.i64.wrap ((IntKind.i64.wrap (b+(1:Int)))+(d.length:Int))).toNat (qa Zd))).set b.toNat (((c.getD a.toNat (qa Y68)).2).1:Int)).length:Int)) (chk ((IntKind.i64.wrap ((IntKind.i64.wrap (b+(1:Int)))+a)).toNat<((((c.getD a.toNat (qa Y68)).1:Zb)++List.drop ((c.getD a.toNat (qa Y68)).1:Zb).length (List.replicate (IntKind.i64.wrap ((IntKind.i64.wrap (b+(1:Int)))+(d.length:Int))).toNat (qa Zd))).set b.toNat (((c.getD a.toNat (qa Y68)).2).1:Int)).length) (chk (e.length+([(((((c.getD a.toNat (qa Y68)).1:Zb)++List.drop ((c.getD a.toNat (qa Y68)).1:Zb).length (List.replicate (IntKind.i64.wrap ((IntKind.i64.wrap (b+(1:Int)))+(d.length:Int))).toNat (qa Zd))).set b.toNat (((c.getD a.toNat (qa Y68)).2).1:Int)).set ((IntKind.i64.wrap ((IntKind.i64.wrap (b+(1:Int)))+a)).toNat) (1:Int))]:List (Val (.slice 3 Zd))).length<=1048576) (js N c f b d k0 n (IntKind.i64.wrap (a+(1:Int))) (e++([(((((c.getD a.toNat (qa Y68)).1:Zb)++List.drop ((c.getD a.toNat (qa Y68)).1:Zb).length (List.replicate (IntKind.i64.wrap ((IntKind.i64.wrap (b+(1:Int)))+(d.length:Int))).toNat (qa Zd))).set b.toNat (((c.getD a.toNat (qa Y68)).2).1:Int)).set ((IntKind.i64.wrap ((IntKind.i64.wrap (b+(1:Int)))+a)).toNat) (1:Int))]:List (Val (.slice 3 Zd)))))))))))))else (k0 e)
def jt (N:Nat) (c:Int) (d:Ze) (k2:(List (Val (.slice 3 Zd)))->ZO [i25,i4]):Nat->(List (Val (.slice 3 Zd)))->Int->ZO [i25,i4]
 | 0,_,_=>none
 | n+1,b,a=>bif (decide ((0:Int)<=a))then (chk (wZ b a) (bif (!((jo b a).2:Bool))then (some (([]:Zb),false,()))else (jt N c d k2 n ((jo b a).1:List (Val (.slice 3 Zd))) (IntKind.i64.wrap (a - (1:Int))))))else (k2 b)
def hS (N:Nat) (b:List (Val (.slice 3 Zd))) (e c:Int) (d:Ze) (k4:Unit->ZO [i25,i4]):Nat->Int->ZO [i25,i4]
 | 0,_=>none
 | n+1,a=>bif (decide (a<e))then (chk (0<=a/\a<(b.length:Int)) (chk (0<=(IntKind.i64.wrap (c+(1:Int)))/\(IntKind.i64.wrap (c+(1:Int)))<=(((b.getD a.toNat (qa (.slice 3 Zd))):Zb).length:Int)/\(((b.getD a.toNat (qa (.slice 3 Zd))):Zb).length:Int)<=(((b.getD a.toNat (qa (.slice 3 Zd))):Zb).length:Int)) (chk (kb ((((b.getD a.toNat (qa (.slice 3 Zd))):Zb).take (((b.getD a.toNat (qa (.slice 3 Zd))):Zb).length:Int).toNat).drop (IntKind.i64.wrap (c+(1:Int))).toNat)) (chk (dR (c,d) ((idL ((((b.getD a.toNat (qa (.slice 3 Zd))):Zb).take (((b.getD a.toNat (qa (.slice 3 Zd))):Zb).length:Int).toNat).drop (IntKind.i64.wrap (c+(1:Int))).toNat)):Zb)) (bif ((bP (c,d) ((idL ((((b.getD a.toNat (qa (.slice 3 Zd))):Zb).take (((b.getD a.toNat (qa (.slice 3 Zd))):Zb).length:Int).toNat).drop (IntKind.i64.wrap (c+(1:Int))).toNat)):Zb)):Bool)then (some (((idL ((((b.getD a.toNat (qa (.slice 3 Zd))):Zb).take (((b.getD a.toNat (qa (.slice 3 Zd))):Zb).length:Int).toNat).drop (IntKind.i64.wrap (c+(1:Int))).toNat)):Zb),true,()))else (hS N b e c d k4 n (IntKind.i64.wrap (a+(1:Int)))))))))else (k4 ())
def m49 (N:Nat) (a:Zj):ZO [i25,i4]:=bif (!((qI a):Bool))then (some (([]:Zb),false,()))else (js N (a.2:Ze) ((a.2:Ze).length:Int) (a.1:Int) (a.2:Ze) (fun (c:List (Val (.slice 3 Zd)))=>jt N (a.1:Int) (a.2:Ze) (fun (b:List (Val (.slice 3 Zd)))=>hS N b (b.length:Int) (a.1:Int) (a.2:Ze) (fun (_:Unit)=>some (([]:Zb),false,())) N (0:Int)) N c (IntKind.i64.wrap ((a.1:Int) - (1:Int)))) N (0:Int) ([]:List (Val (.slice 3 Zd))))
def Γ49:Gam:=[(45,g45),(52,g52),(89,g89),(90,g90)]
theorem GB:Gam.get Γ49 45=some g45/\Gam.get Γ49 52=some g52/\Gam.get Γ49 89=some g89/\Gam.get Γ49 90=some g90:=⟨rfl,rfl,rfl,rfl⟩
def w7:List Bool:=[O,I,O,O,I,O,O,O,O,O,O,O,O,O,O,O,O,O,O,I,I,I]
def GC:Nm:=⟨w7,[],false⟩
theorem Se:NmS GC w7 [] false:=nmS
def w8:List Bool:=[O,I,O,O,I,O,O,O,I]
def GD:Nm:=⟨w8,[.she 4 0 111 (.slice 3 Zd)],false⟩
theorem Sf:NmS GD w8 [.she 4 0 111 (.slice 3 Zd)] false:=nmS
def w9:List Bool:=[O,I,O,O,O,O,O,O,O,O,O,O,O,O,O,O,O,O,O,O,O,O,O,O,O,O,O,O,O,O,O,O,O,O,O,O,O,O,O,O,O,O,O,O,O,O,O,O,O,O,O,O,O,O,O,O,O,O,O,O,O,O,O,O,O,O,O,O,O,O,O,O,I,I,I]
def GF:Nm:=⟨w9,[],false⟩
theorem Sg:NmS GF w9 [] false:=nmS
def GG:List Bool:=[O,I,O,O,I]
def Sh:Nm:=⟨GG,[],false⟩
theorem qUB:NmS Sh GG [] false:=nmS
def GH:List Bool:=[O,I,O,O,I]
def Si:Nm:=⟨GH,[],false⟩
theorem q08:NmS Si GH [] false:=nmS
def GI:List Bool:=[]
def Sj:Nm:=⟨GI,[],false⟩
theorem qYl:NmS Sj GI [] false:=nmS
def hU:Sem:=sj tt (dI)
def pM:Nat->Nm:=fun i=>if i=5 then GC else if i=14 then GD else if i=21 then GF else ⟨[],[],false⟩
def pN:Nat->Option Nm:=fun i=>if i=0 then some Sh else if i=2 then some Si else if i=4 then some Sj else none
theorem p49:qi tr0 (Tryz.f49.body.getD .skip)=true:=by kernel_rfl
def T49 (N:Nat):Tab:={tr:=tr0,lp:=pM,ex:=pN,rg:=rg0,jn:=jn0,fuel:=N,sem:=hU}
theorem qRe (N:Nat):qj Tryz.prog (T49 N):=qn fun _=>rfl
theorem k3 (N:Nat):fC (T49 N) tr0 pM pN rg0 jn0 N false hU:=gf
def Sk:Code:=cut [I,I,I,O,I,I,I] (Tryz.f49.body.getD .skip)
theorem q0t (N:Nat) (f:Ze) (g b:Int) (d:Ze) {k0:(List (Val (.slice 3 Zd)))->ZO [i25,i4]} {Q:ZQ [i25,i4]} {c:Code} (j:c=Sk) (l: ∀st,Q .ret st=qz tt true [i25,i4] [.tmp 2,.tmp 3] st) (i: ∀(h:List (Val (.slice 3 Zd))),Q (.exit 0) ⟨[u,.one (.ptr 0 0 0),u,u,.one (.own 1),u,u,u,u,u,u,u,u,u,u,u,u,u,u,u,u,u,u,u,u,u,u,u,u,u,u,u,u,u,u,u,u,u,u,u,u,u,u,u,u,u,u,u,u,u,u,u,u,u,u,u,u,u,u,u,u,u,u,u,u,u,u,u,u,u,u,u,u,u,u,u,u,u,u,u,u,u,u,u,u,u,u,u,u],[.box [.int .i64 b,.sl 68 Y68 d 2],.row 111 (.slice 3 Zd) h true true 0]⟩=k0 h): ∀(n:Nat) (a:Int) (e:List (Val (.slice 3 Zd))),qw (qd tt Γ49 (T49 N) c) false GC Q n ⟨[u,.one (.ptr 0 0 0),u,u,.one (.own 1),u,u,u,u,u,u,u,u,u,u,u,u,u,u,.one (.sl 68 Y68 f 2),.one (.int .i64 g),.one (.int .i64 a),u,u,u,u,u,u,u,u,u,u,u,u,u,u,u,u,u,u,u,u,u,u,u,u,u,u,u,u,u,u,u,u,u,u,u,u,u,u,u,u,u,u,u,u,u,u,u,u,u,u,u,u,u,u,u,u,u,u,u,u,u,u,u,u,u,u,u],[.box [.int .i64 b,.sl 68 Y68 d 2],.row 111 (.slice 3 Zd) e true true 0]⟩=js N f g b d k0 n a e:=by
 intro n;induction n with
 | zero=>intros;rfl
 | succ n k=>
   intro a e
   rw [qD,qE j,js];unfold Sk Tryz.f49
   simp (maxSteps:=10000000) -implicitDefEqProofs [k3,pN,hU,ir,Se,w7,qUB,GG,i,k]
def Sl:Code:=cut [I,I,I,I,O,I,I,I] (Tryz.f49.body.getD .skip)
theorem q2U (N:Nat) (b:Int) (d:Ze) {k2:(List (Val (.slice 3 Zd)))->ZO [i25,i4]} {Q:ZQ [i25,i4]} {c:Code} (g:c=Sl) (h: ∀st,Q .ret st=qz tt true [i25,i4] [.tmp 2,.tmp 3] st) (h2: ∀(f:List (Val (.slice 3 Zd))),Q (.exit 2) ⟨[u,.one (.ptr 0 0 0),u,u,.one (.sl 111 (.slice 3 Zd) f 1),u,u,u,u,u,u,u,u,u,u,u,u,u,u,u,u,u,u,u,u,u,u,u,u,u,u,u,u,u,u,u,u,u,u,u,u,u,u,u,u,u,u,u,u,u,u,u,u,u,u,u,u,u,u,u,u,u,u,u,u,u,u,u,u,u,u,u,u,u,u,u,u,u,u,u,u,u,u,u,u,u,u,u,u],[.box [.int .i64 b,.sl 68 Y68 d 1]]⟩=k2 f): ∀(n:Nat) (e:List (Val (.slice 3 Zd))) (a:Int),qw (qd tt Γ49 (T49 N) c) false GD Q n ⟨[u,.one (.ptr 0 0 0),u,u,.one (.sl 111 (.slice 3 Zd) e 1),u,u,u,.one (.int .i64 a),u,u,u,u,u,u,u,u,u,u,u,u,u,u,u,u,u,u,u,u,u,u,u,u,u,u,u,u,u,u,u,u,u,u,u,u,u,u,u,u,u,u,u,u,u,u,u,u,u,u,u,u,u,u,u,u,u,u,u,u,u,u,u,u,u,u,u,u,u,u,u,u,u,u,u,u,u,u,u,u],[.box [.int .i64 b,.sl 68 Y68 d 1]]⟩=jt N b d k2 n e a:=by
 intro n;induction n with
 | zero=>intros;rfl
 | succ n i=>
   intro e a
   rw [qD,qE g,jt];unfold Sl Tryz.f49
   simp -implicitDefEqProofs [k3,pN,hU,Sf,w8,q08,GH,GB,g89,h,h2,i]
def Sn:Code:=cut [I,I,I,I,I,O,I,I,I] (Tryz.f49.body.getD .skip)
theorem qOc (N:Nat) (b:List (Val (.slice 3 Zd))) (d e:Int) (f:Ze) {k4:Unit->ZO [i25,i4]} {Q:ZQ [i25,i4]} {c:Code} (h:c=Sn) (i: ∀st,Q .ret st=qz tt true [i25,i4] [.tmp 2,.tmp 3] st) (g:Q (.exit 4) ⟨[u,u,u,u,u,u,u,u,u,u,u,u,u,u,u,u,u,u,u,u,u,u,u,u,u,u,u,u,u,u,u,u,u,u,u,u,u,u,u,u,u,u,u,u,u,u,u,u,u,u,u,u,u,u,u,u,u,u,u,u,u,u,u,u,u,u,u,u,u,u,u,u,u,u,u,u,u,u,u,u,u,u,u,u,u,u,u,u,u],[]⟩=k4 ()): ∀(n:Nat) (a:Int),qw (qd tt Γ49 (T49 N) c) false GF Q n ⟨[u,.one (.ptr 0 0 0),u,u,u,u,u,u,u,u,u,u,u,u,u,u,u,u,u,u,u,u,u,u,u,u,u,u,u,u,u,u,u,u,u,u,u,u,u,u,u,u,u,u,u,u,u,u,u,u,u,u,u,u,u,u,u,u,u,u,u,u,u,u,u,u,u,u,u,u,u,u,.one (.sl 111 (.slice 3 Zd) b 1),.one (.int .i64 d),.one (.int .i64 a),u,u,u,u,u,u,u,u,u,u,u,u,u,u],[.box [.int .i64 e,.sl 68 Y68 f 1]]⟩=hS N b d e f k4 n a:=by
 intro n;induction n with
 | zero=>intros;rfl
 | succ n j=>
   intro a
   rw [qD,qE h,hS];unfold Sn Tryz.f49
   simp -implicitDefEqProofs [k3,pN,hU,Sg,w9,qYl,GI,GB,g52,g90,i,g,j]
theorem qUX (N:Nat) (a:Zj):qd tt Γ49 (T49 N) (Tryz.f49.body.getD .skip) (qk tt true [i25,i4] [.tmp 2,.tmp 3]) (qm [i35] 89 (a,()))=m49 N a:=by
 unfold Tryz.f49
 simp -implicitDefEqProofs [k3,pM,hU,Se,w7,GB,g45]
 rewrite [q0t (k0:=(fun (c:List (Val (.slice 3 Zd)))=>jt N (a.1:Int) (a.2:Ze) (fun (b:List (Val (.slice 3 Zd)))=>hS N b (b.length:Int) (a.1:Int) (a.2:Ze) (fun (_:Unit)=>some (([]:Zb),false,())) N (0:Int)) N c (IntKind.i64.wrap ((a.1:Int) - (1:Int))))) N _ _ _ _ ?_ ?_ ?_]
 ·rewrite [m49];first | rfl | simp -implicitDefEqProofs []
 ·rfl
 ·intro;simp only [qA,qC,qJ]
 ·intro c;simp -implicitDefEqProofs [k3,pM,hU,Sf,w8]
  rewrite [q2U N _ _ ?_ ?_ ?_]
  ·first | rfl | simp -implicitDefEqProofs []
  ·rfl
  ·intro;simp only [qA,qC,qJ]
  ·intro b;simp -implicitDefEqProofs [k3,pM,hU,Sg,w9]
   rewrite [qOc N _ _ _ _ ?_ ?_ ?_]
   ·first | rfl | simp -implicitDefEqProofs []
   ·rfl
   ·intro;simp only [qA,qC,qJ]
   ·simp -implicitDefEqProofs [k3,hU]
end
end Go.T
