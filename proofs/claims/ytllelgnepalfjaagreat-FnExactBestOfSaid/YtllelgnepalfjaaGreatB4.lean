import Derived.Test.YtllelgnepalfjaaGreatA8a
import Derived.Test.YtllelgnepalfjaaGreatT13
set_option linter.unusedSimpArgs false
set_option linter.unusedVariables false
namespace Go.T
noncomputable section
open Go Go.Proofs
set_option maxHeartbeats 4000000
set_option maxRecDepth 100000
abbrev atm (a:Zf):Atm:=a
def okA (a:Zf):Prop:=qy a=true
def bo (a:Zf):Bool:=decide (gL 0 (atm a).1≠0)
def mj (a:Zf):Prop:=okA a
def gSv (a:Zf):Int:=(gS (atm a):Int)
def gi (a:Zf):Prop:=okA a
def sgn (a b:Int):Int:=if a<b then -1 else if b<a then 1 else 0
def cN (a b:Zf):Int:=way (atm a) (atm b)
def fF (a b:Zf):Prop:=okA a/\okA b/\List.length (α:=Int) a.1=List.length (α:=Int) b.1
def j5 (a b:Zf):Int:=bif qy a&&qy b&&decide (List.length (α:=Int) a.1=List.length (α:=Int) b.1)then cf (atm a) (atm b)else 2
theorem od {a:Zf} (h:okA a): ∀x∈(a.1:List Int),inI x:=fun x b=>by
 have h1: @LE.le Int _ (-400000000) x/\ @LE.le Int _ x 400000000:=(ch h).2.2 x b
 unfold inI;omega
theorem sW {a:Zf} (h:okA a):eE a.1:=⟨by have:=(ch h).1;omega,od h⟩
theorem fg {a:Zf} (h:okA a): -400000000<=(a.2.1:Int)/\ @LE.le Int _ a.2.1 400000000:=by
 have h:qy a=true:=h
 unfold qy at h
 simp only [Bool.and_eq_true,decide_eq_true_eq]at h
 exact of_decide_eq_true h.1.1.2
theorem L0 {a:Zf} (h:okA a) (b:bo a=true):j2 (atm a):=by
 have h:qy a=true:=h
 unfold qy at h
 simp only [Bool.and_eq_true,decide_eq_true_eq]at h
 have h2:=h.2
 exact ⟨of_decide_eq_true b,by have h2:((gL (Int.natAbs a.2.1) a.1:Nat):Int)<=1:=h2;show gL (Int.natAbs a.2.1) a.1<=1;omega⟩
theorem sX {a:Zf} (h:okA a):gSv a<=400000000:=by
 unfold gSv gS
 by_cases c:gL 0 (atm a).1=0
 ·rw [c];decide
 ·obtain ⟨x,b,d⟩: ∃x∈(atm a).1,x≠0:=by
   apply Classical.byContradiction
   intro e
   exact c (mg.2 fun x b=>Classical.byContradiction fun d=>e ⟨x,b,d⟩)
  have h1:=(j1 (atm a).1 0).2 x b
  have h2:=Nat.le_of_dvd (by omega) h1
  have f: @LE.le Int _ (-400000000) x/\ @LE.le Int _ x 400000000:=(ch h).2.2 x b
  omega
theorem Yd (p q:Int):sgn p q=sgI (p - q):=by
 unfold sgn sgI
 split<;>split<;>(try split)<;>omega
theorem iI {x y:Int} (h1: -400000000<=x/\x<=400000000) (h2:0<=y/\y<=400000000):IntKind.i64.wrap (x*y)=x*y:=by
 have h:(x*y).natAbs<=400000000*400000000:=by
  rw [Int.natAbs_mul];exact Nat.mul_le_mul (by omega) (by omega)
 exact bn (by omega) (by omega)
def j6:G:={ps:=[i68],rs:=[i4],dp:=true,pre:=fun x=>mj x.1,fn:=fun x=>(bo x.1,())}
def j7:G:={ps:=[i68],rs:=[i3],dp:=true,pre:=fun x=>gi x.1,fn:=fun x=>(gSv x.1,())}
def j8:G:={ps:=[i3,i3],rs:=[i3],dp:=true,pre:=fun _=>True,fn:=fun x=>(sgn x.1 x.2.1,())}
def sY (N:Nat) (a:Zf):ZO [i4]:=chk (eE (a.1:Zb)) (some ((!(decide (((b7 (a.1:Zb)):Int)=(0:Int)))),()))
def Ax:Gam:=[(111,dx)]
theorem Ye:Gam.get Ax 111=some dx:=rfl
theorem Yf:qi tr0 (Tryz.f124.body.getD .skip)=true:=by kernel_rfl
def sZ (N:Nat):Tab:={tr:=tr0,lp:=lp0,ex:=ex0,rg:=rg0,jn:=jn0,fuel:=N}
theorem Yg (N:Nat):qj Tryz.prog (sZ N):=qn fun _=>rfl
theorem Yh (N:Nat):qr (sZ N) tr0 lp0 ex0 rg0 jn0 N false:=qt
theorem Yi (N:Nat) (a:Zf):qd tt Ax (sZ N) (Tryz.f124.body.getD .skip) (qk tt true [i4] [.tmp 2]) (qm [i68] 7 (a,()))=sY N a:=by
 rw [sY];unfold Tryz.f124
 simp -implicitDefEqProofs [Yh,Ye,dx]
 try rfl
def s0 (N:Nat) (a:Zf):ZO [i3]:=chk (eE (a.1:Zb)) (bif (decide (((b7 (a.1:Zb)):Int)=(0:Int)))then (some ((1:Int),()))else (some (((b7 (a.1:Zb)):Int),())))
def Ay:Gam:=[(111,dx)]
theorem Yj:Gam.get Ay 111=some dx:=rfl
theorem Yk:qi tr0 (Tryz.f137.body.getD .skip)=true:=by kernel_rfl
def ta (N:Nat):Tab:={tr:=tr0,lp:=lp0,ex:=ex0,rg:=rg0,jn:=jn0,fuel:=N}
theorem Ym (N:Nat):qj Tryz.prog (ta N):=qn fun _=>rfl
theorem Yn (N:Nat):qr (ta N) tr0 lp0 ex0 rg0 jn0 N false:=qt
theorem Yo (N:Nat) (a:Zf):qd tt Ay (ta N) (Tryz.f137.body.getD .skip) (qk tt true [i3] [.tmp 2]) (qm [i68] 10 (a,()))=s0 N a:=by
 rw [s0];unfold Tryz.f137
 simp -implicitDefEqProofs [Yn,Yj,dx]
 try rfl
def tc (N:Nat) (a b:Int):ZO [i3]:=bif (decide (a<b))then (some ((-1:Int),()))else (bif (decide (b<a))then (some ((1:Int),()))else (some ((0:Int),())))
def L1:Gam:=[]
theorem Yp:qi tr0 (Tryz.f136.body.getD .skip)=true:=by kernel_rfl
def td (N:Nat):Tab:={tr:=tr0,lp:=lp0,ex:=ex0,rg:=rg0,jn:=jn0,fuel:=N}
theorem Yq (N:Nat):qj Tryz.prog (td N):=qn fun _=>rfl
theorem Yr (N:Nat):qr (td N) tr0 lp0 ex0 rg0 jn0 N false:=qt
theorem Ys (N:Nat) (a b:Int):qd tt L1 (td N) (Tryz.f136.body.getD .skip) (qk tt true [i3] [.tmp 4]) (qm [i3,i3] 11 (a,b,()))=tc N a b:=by
 rw [tc];unfold Tryz.f136
 simp -implicitDefEqProofs [Yr]
 try rfl
theorem Yt (a:Zf) (h:mj a): ∃N,sY N a=some (bo a,()):=⟨0,by
 rw [sY,qc (sW h)]
 unfold bo b7
 have e:(((gL 0 (atm a).1:Nat):Int)=0)↔(gL 0 (atm a).1=0):=by omega
 by_cases b:gL 0 (atm a).1=0
 ·simp [b]
 ·simp [b]⟩
theorem Yu (a:Zf) (h:gi a): ∃N,s0 N a=some (gSv a,()):=⟨0,by
 rw [s0,qc (sW h)]
 unfold gSv gS b7
 by_cases b:gL 0 (atm a).1=0
 ·rw [qg (by show ((gL 0 (atm a).1:Nat):Int)=0;omega),b];rfl
 ·rw [qf (by show ¬((gL 0 (atm a).1:Nat):Int)=0;omega)]
  rw [Nat.max_eq_right (by omega)]⟩
theorem Yv (a b:Int): ∃N,tc N a b=some (sgn a b,()):=⟨0,by
 rw [tc,sgn]
 by_cases h1:a<b<;>by_cases h2:b<a<;>simp [h1,h2]⟩
theorem L2:Sound Tryz.prog 124 j6:=qo (tt:=tt) (Γ:=Ax) hT (qe n5 ql) hm (fn:=Tryz.f124) Tryz.func124 (c:=Tryz.f124.body.getD .skip) (by kernel_rfl) (by kernel_rfl) fun x a=>by
 obtain ⟨N,h⟩:=Yt x.1 a
 exact ⟨sZ N,Yf,qp _,Yg N,(Yi N x.1).trans h⟩
theorem L3:Sound Tryz.prog 137 j7:=qo (tt:=tt) (Γ:=Ay) hT (qe n5 ql) hm (fn:=Tryz.f137) Tryz.func137 (c:=Tryz.f137.body.getD .skip) (by kernel_rfl) (by kernel_rfl) fun x a=>by
 obtain ⟨N,h⟩:=Yu x.1 a
 exact ⟨ta N,Yk,qp _,Ym N,(Yo N x.1).trans h⟩
theorem L4:Sound Tryz.prog 136 j8:=qo (tt:=tt) (Γ:=L1) hT ql hm (fn:=Tryz.f136) Tryz.func136 (c:=Tryz.f136.body.getD .skip) (by kernel_rfl) (by kernel_rfl) fun x a=>by
 obtain ⟨N,h⟩:=Yv x.1 x.2.1
 exact ⟨td N,Yp,qp _,Yq N,(Ys N x.1 x.2.1).trans h⟩
def j9:G:={ps:=[i68,i68],rs:=[i3],dp:=true,pre:=fun x=>fF x.1 x.2.1,fn:=fun x=>(cN x.1 x.2.1,())}
def ka (N:Nat) (b c f:Int) (d:Zb) (i:Int) (j:Bool) (e:Zb) (g:Int) (h:Bool) (k0:Unit->ZO [i3]):Nat->Int->ZO [i3]
 | 0,_=>none
 | n+1,a=>bif (decide (a<f))then (chk (0<=a/\a<(d.length:Int)) (chk (b≠0) (chk (0<=a/\a<(e.length:Int)) (chk (c≠0) (bif (!(decide (((sgn (IntKind.i64.wrap (((d.getD a.toNat (qa Zd)):Int).tdiv b)) (IntKind.i64.wrap (((e.getD a.toNat (qa Zd)):Int).tdiv c))):Int)=(0:Int))))then (some (((sgn (IntKind.i64.wrap (((d.getD a.toNat (qa Zd)):Int).tdiv b)) (IntKind.i64.wrap (((e.getD a.toNat (qa Zd)):Int).tdiv c))):Int),()))else (ka N b c f d i j e g h k0 n (IntKind.i64.wrap (a+(1:Int)))))))))else (k0 ())
def tf (N:Nat) (a b:Zf):ZO [i3]:=chk (gi a) (chk (gi b) (ka N ((gSv a):Int) ((gSv b):Int) ((a.1:Zb).length:Int) (a.1:Zb) (a.2.1:Int) (a.2.2:Bool) (b.1:Zb) (b.2.1:Int) (b.2.2:Bool) (fun (_:Unit)=>some ((0:Int),())) N (0:Int)))
def oe:Gam:=[(136,j8),(137,j7)]
theorem L5:Gam.get oe 136=some j8/\Gam.get oe 137=some j7:=⟨rfl,rfl⟩
def tg:List Bool:=[O,O,I,I,O,I,I,O,O,O,O,O,O,O,O,I,I]
def Az:Nm:=⟨tg,[],false⟩
theorem L6:NmS Az tg [] false:=nmS
def AA:List Bool:=[]
def L7:Nm:=⟨AA,[],false⟩
theorem Yw:NmS L7 AA [] false:=nmS
def AB:List Bool:=[O,O,I,I,O,I,I]
def L8:Nm:=⟨AB,[],false⟩
theorem Yx:NmS L8 AB [] false:=nmS
def og:Nat->Tree:=fun i=>if i=1 then .quiet 0 (.alt 1 (.quiet 2 (.alt 3 (.quiet 4 (.quiet 5 .done)) .stop)) (.alt 2 (.alt 1 (.alt 3 (.quiet 4 (.quiet 5 .done)) .stop) .stop) .stop))else if i=5 then .quiet 0 (.quiet 1 (.quiet 2 (.quiet 3 (.quiet 4 (.quiet 5 (.quiet 6 (.quiet 7 (.quiet 8 (.quiet 9 (.quiet 10 (.quiet 11 (.quiet 12 (.quiet 13 (.alt 14 (.quiet 15 .done) .stop))))))))))))))else .done
def AD:Nat->Nm:=fun i=>if i=3 then Az else ⟨[],[],false⟩
def AE:Nat->Option Nm:=fun i=>if i=0 then some L7 else none
def oh:Nat->Option Nm:=fun i=>if i=1 then some L8 else none
theorem Yy:qi og (Tryz.f128.body.getD .skip)=true:=by kernel_rfl
def oi (N:Nat):Tab:={tr:=og,lp:=AD,ex:=AE,rg:=oh,jn:=jn0,fuel:=N}
theorem Yz (N:Nat):qj Tryz.prog (oi N):=qn fun _=>rfl
theorem AF (N:Nat):qr (oi N) og AD AE oh jn0 N false:=qt
def L9:Code:=cut [I,I,O,I,I,I] (Tryz.f128.body.getD .skip)
theorem YA (N:Nat) (e f g:Int) (h:Zb) (i:Int) (j:Bool) (k:Zb) (b:Int) (d:Bool) {k0:Unit->ZO [i3]} {Q:ZQ [i3]} {c:Code} (m:c=L9) (o: ∀st,Q .ret st=qz tt true [i3] [.tmp 4] st) (l:Q (.exit 0) ⟨[u,u,u,u,u,u,u,u,u,u,u,u,u,u,u,u,u,u,u,u,u,u,u,u,u,u,u,u,u,u,u,u,u,u,u,u,u,u],[]⟩=k0 ()): ∀(n:Nat) (a:Int),qw (qd tt oe (oi N) c) false Az Q n ⟨[u,u,.one (.ptr 0 0 0),.one (.ptr 1 0 0),u,.one (.int .i64 e),.one (.int .i64 f),u,u,u,u,u,u,u,u,.one (.int .i64 g),.one (.int .i64 a),u,u,u,u,u,u,u,u,u,u,u,u,u,u,u,u,u,u,u,u,u],[.box [.sl 3 Zd h 2,.int .i64 i,.bool j],.box [.sl 3 Zd k 2,.int .i64 b,.bool d]]⟩=ka N e f g h i j k b d k0 n a:=by
 intro n;induction n with
 | zero=>intros;rfl
 | succ n p=>
   intro a
   rw [qD,qE m,ka];unfold L9 Tryz.f128
   simp -implicitDefEqProofs [AF,og,AE,oh,L6,tg,Yw,AA,L5,j8,o,l,p]
theorem YB (N:Nat) (a b:Zf):qd tt oe (oi N) (Tryz.f128.body.getD .skip) (qk tt true [i3] [.tmp 4]) (qm [i68,i68] 38 (a,b,()))=tf N a b:=by
 unfold Tryz.f128
 simp -implicitDefEqProofs [AF,og,AD,oh,L6,tg,Yx,AB,L5,j7]
 rewrite [YA (k0:=(fun (_:Unit)=>some ((0:Int),()))) N _ _ _ _ _ _ _ _ _ ?_ ?_ ?_]
 ·rewrite [tf];first | rfl | simp -implicitDefEqProofs []
 ·rfl
 ·intro;simp only [qA,qC,qJ]
 ·simp -implicitDefEqProofs [AF,oh]
theorem Ma (N g h:Nat) (e:(g:Int)≠0) (f:(h:Int)≠0) (xs ys:Zb) (r:xs.length=ys.length) (d:xs.length<=1048576) (j: ∀x∈xs,inI x) (l: ∀x∈ys,inI x) (c b:Int) (s m:Bool): ∀(k i:Nat),xs.length - i=k-> ∀n,k<n->
 ka N g h xs.length xs c s ys b m (fun _=>some ((0:Int),())) n i=some (cB ((List.drop (α:=Int) i xs).map fun x=>x.tdiv (g:Int)) ((List.drop (α:=Int) i ys).map fun x=>x.tdiv (h:Int)),())
 | 0,i,o,n+1,_=>by
   rw [ka,qf (by omega),List.drop_eq_nil_of_le (by omega),List.drop_eq_nil_of_le (by omega)]
   rfl
 | k+1,i,o,n+1,t=>by
   have h1:i<xs.length:=by omega
   have h2:i<ys.length:=by omega
   rw [ka,qg (by omega),qc (by omega),qc e,qc (by omega),qc f,qB h1,qB h2,di (j _ (List.getElem_mem h1)),di (l _ (List.getElem_mem h2)),b3 h1 d]
   rw [List.drop_eq_getElem_cons h1,List.drop_eq_getElem_cons h2,List.map_cons,List.map_cons,cB]
   generalize u:Int.tdiv xs[i] (g:Int)=p
   generalize v:Int.tdiv ys[i] (h:Int)=q
   unfold sgn
   by_cases a:p<q
   ·simp [a]
   ·by_cases a2:q<p
    ·simp [a,a2]
    ·rw [if_neg a,if_neg a2,if_neg a,if_neg a2]
     simp only [decide_true,Bool.not_true,cond_false]
     exact Ma N g h e f xs ys r d j l c b s m k (i+1) (by omega) n (by omega)
theorem YC (a b:Zf) (h:fF a b): ∃N,tf N a b=some (cN a b,()):=⟨List.length (α:=Zc) a.1+1,by
 obtain ⟨c,d,e⟩:=h
 rw [tf,qc (show gi a from c),qc (show gi b from d)]
 have:=Ma (List.length (α:=Zc) a.1+1) (gS (atm a)) (gS (atm b)) (by have:=eh (atm a);omega) (by have:=eh (atm b);omega) a.1 b.1 e (by have:=(ch c).1;omega) (od c) (od d) a.2.1 b.2.1 a.2.2 b.2.2 _ 0 rfl _ (Nat.lt_succ_self _)
 simp only [List.drop_zero]at this
 exact this⟩
theorem Mb:Sound Tryz.prog 128 j9:=qo (tt:=tt) (Γ:=oe) hT (qe L4 (qe L3 ql)) hm (fn:=Tryz.f128) Tryz.func128 (c:=Tryz.f128.body.getD .skip) (by kernel_rfl) (by kernel_rfl) fun x a=>by
 obtain ⟨N,h⟩:=YC x.1 x.2.1 a
 exact ⟨oi N,Yy,qp _,Yz N,(YB N x.1 x.2.1).trans h⟩
def YD:G:={ps:=[i68,i68],rs:=[i3],dp:=true,pre:=fun _=>True,fn:=fun x=>(j5 x.1 x.2.1,())}
def th (N:Nat) (a b:Zf):ZO [i3]:=bif (!((qy a):Bool))then (some ((2:Int),()))else (bif (!((qy b):Bool))then (some ((2:Int),()))else (bif (!(decide (((a.1:Zb).length:Int)=((b.1:Zb).length:Int))))then (some ((2:Int),()))else (chk (fF a b) (bif (!(decide (((cN a b):Int)=(0:Int))))then (some (((cN a b):Int),()))else (chk (gi b) (chk (gi a) (bif (!(decide (((sgn (IntKind.i64.wrap ((a.2.1:Int)*((gSv b):Int))) (IntKind.i64.wrap ((b.2.1:Int)*((gSv a):Int)))):Int)=(0:Int))))then (some (((sgn (IntKind.i64.wrap ((a.2.1:Int)*((gSv b):Int))) (IntKind.i64.wrap ((b.2.1:Int)*((gSv a):Int)))):Int),()))else (bif ((a.2.2:Bool)==(b.2.2:Bool))then (some ((0:Int),()))else (bif (a.2.2:Bool)then (some ((1:Int),()))else (some ((-1:Int),())))))))))))
def ml:Gam:=[(80,g80),(128,j9),(136,j8),(137,j7)]
theorem YE:Gam.get ml 80=some g80/\Gam.get ml 128=some j9/\Gam.get ml 136=some j8/\Gam.get ml 137=some j7:=⟨rfl,rfl,rfl,rfl⟩
def tj:Nat->Tree:=fun i=>if i=6 then .quiet 2 (.keep 0 (.keep 1 (.keep 5 (.keep 6 (.keep 7 (.alt 3 (.first 4 (.alt 8 (.quiet 9 (.alt 10 (.quiet 11 .done) .stop)) .stop)) .stop))))))else .done
theorem YF:qi tj (Tryz.f127.body.getD .skip)=true:=by kernel_rfl
def tk (N:Nat):Tab:={tr:=tj,lp:=lp0,ex:=ex0,rg:=rg0,jn:=jn0,fuel:=N}
theorem YG (N:Nat):qj Tryz.prog (tk N):=qn fun _=>rfl
theorem YH (N:Nat):qr (tk N) tj lp0 ex0 rg0 jn0 N false:=qt
theorem YI (N:Nat) (a b:Zf):qd tt ml (tk N) (Tryz.f127.body.getD .skip) (qk tt true [i3] [.tmp 4]) (qm [i68,i68] 51 (a,b,()))=th N a b:=by
 rw [th];unfold Tryz.f127
 simp -implicitDefEqProofs [YH,tj,YE,g80,j9,j8,j7]
 try rfl
theorem YJ (a b:Zf): ∃N,th N a b=some (j5 a b,()):=⟨0,by
 rw [th,j5]
 cases d:qy a with
 | false=>simp
 | true=>
   cases e:qy b with
   | false=>simp
   | true=>
     by_cases c:List.length (α:=Int) a.1=List.length (α:=Int) b.1
     ·have f:((List.length (α:=Zc) a.1:Nat):Int)=(List.length (α:=Zc) b.1:Nat):=by exact_mod_cast c
      have h1:=fg d
      have h2:=fg e
      have g1:=sX d
      have g2:=sX e
      have i:=eh (atm a)
      have j:=eh (atm b)
      simp only [c,decide_true,Bool.and_self,cond_true,Bool.not_true,cond_false]
      rw [qc (show fF a b from ⟨d,e,c⟩),qc (show gi b from e),qc (show gi a from d)]
      rw [iI h1 ⟨by unfold gSv;omega,g2⟩,iI h2 ⟨by unfold gSv;omega,g1⟩,Yd]
      have h:sgI (a.2.1*gSv b - b.2.1*gSv a)=eC (atm a) (atm b):=rfl
      rw [h]
      unfold cf cN
      by_cases w0:way (atm a) (atm b)=0
      ·by_cases g:eC (atm a) (atm b)=0
       ·simp only [w0,g,decide_true,Bool.not_true,cond_false,if_true]
        unfold stc
        cases a.2.2<;>cases b.2.2<;>rfl
       ·simp [w0,g]
      ·simp [w0]
     ·have f: ¬((List.length (α:=Zc) a.1:Nat):Int)=(List.length (α:=Zc) b.1:Nat):=by exact_mod_cast c
      simp only [c,decide_false,Bool.and_false,cond_false,Bool.not_true]
      rw [b4,qf f]⟩
theorem YK:Sound Tryz.prog 127 YD:=qo (tt:=tt) (Γ:=ml) hT (qe s80 (qe Mb (qe L4 (qe L3 ql)))) hm (fn:=Tryz.f127) Tryz.func127 (c:=Tryz.f127.body.getD .skip) (by kernel_rfl) (by kernel_rfl) fun x a=>by
 obtain ⟨N,h⟩:=YJ x.1 x.2.1
 exact ⟨tk N,YF,qp _,YG N,(YI N x.1 x.2.1).trans h⟩
def eF (d:Int):Zj:=(d,[(List.replicate d.toNat (0:Int),(1:Int),false)])
def hl (d:Int):Prop:=0<=d/\d<=1048576
def idL (l:Zb):Zb:=l
def kb (l:Zb):Prop:=l.length<=1048576
def idA (a:Zf):Zf:=a
def cx (a:Zf):Prop:=List.length (α:=Zc) a.1<=1048576
def tl:G:={ps:=[i3],rs:=[i35],dp:=true,pre:=fun x=>hl x.1,fn:=fun x=>(eF x.1,())}
def g90:G:={ps:=[i25],rs:=[i25],dp:=true,pre:=fun x=>kb x.1,fn:=fun x=>(idL x.1,())}
def tm (N:Nat) (a:Int):ZO [i35]:=chk (0<=a/\a<=a/\a<=1048576) (some ((a,([((List.replicate a.toNat (qa Zd)),(1:Int),false)]:Ze)),()))
def Mc:Gam:=[]
theorem YL:qi tr0 (Tryz.f125.body.getD .skip)=true:=by kernel_rfl
def tn (N:Nat):Tab:={tr:=tr0,lp:=lp0,ex:=ex0,rg:=rg0,jn:=jn0,fuel:=N}
theorem YM (N:Nat):qj Tryz.prog (tn N):=qn fun _=>rfl
theorem YN (N:Nat):qr (tn N) tr0 lp0 ex0 rg0 jn0 N false:=qt
theorem YO (N:Nat) (a:Int):qd tt Mc (tn N) (Tryz.f125.body.getD .skip) (qk tt true [i35] [.cell 2 35]) (qm [i3] 9 (a,()))=tm N a:=by
 rw [tm];unfold Tryz.f125
 simp -implicitDefEqProofs [YN]
 try rfl
def m90 (N:Nat) (a:Zb):ZO [i25]:=chk (([]:Zb).length+a.length<=1048576) (some ((([]:Zb)++a),()))
def Γ90:Gam:=[]
theorem p90:qi tr0 (Tryz.f90.body.getD .skip)=true:=by kernel_rfl
def T90 (N:Nat):Tab:={tr:=tr0,lp:=lp0,ex:=ex0,rg:=rg0,jn:=jn0,fuel:=N}
theorem YP (N:Nat):qj Tryz.prog (T90 N):=qn fun _=>rfl
theorem YQ (N:Nat):qr (T90 N) tr0 lp0 ex0 rg0 jn0 N false:=qt
theorem YR (N:Nat) (a:Zb):qd tt Γ90 (T90 N) (Tryz.f90.body.getD .skip) (qk tt true [i25] [.tmp 2]) (qm [i25] 6 (a,()))=m90 N a:=by
 rw [m90];unfold Tryz.f90
 simp -implicitDefEqProofs [YQ]
 try rfl
theorem YS (d:Int) (h:hl d): ∃N,tm N d=some (eF d,()):=⟨0,by
 rw [tm,qc ⟨h.1,Int.le_refl _,h.2⟩];rfl⟩
theorem e90 (l:Zb) (h:kb l): ∃N,m90 N l=some (idL l,()):=⟨0,by
 rw [m90,qc (by simpa [kb] using h)];rfl⟩
theorem YT:Sound Tryz.prog 125 tl:=qo (tt:=tt) (Γ:=Mc) hT ql hm (fn:=Tryz.f125) Tryz.func125 (c:=Tryz.f125.body.getD .skip) (by kernel_rfl) (by kernel_rfl) fun x a=>by
 obtain ⟨N,h⟩:=YS x.1 a
 exact ⟨tn N,YL,qp _,YM N,(YO N x.1).trans h⟩
theorem s90:Sound Tryz.prog 90 g90:=qo (tt:=tt) (Γ:=Γ90) hT ql hm (fn:=Tryz.f90) Tryz.func90 (c:=Tryz.f90.body.getD .skip) (by kernel_rfl) (by kernel_rfl) fun x a=>by
 obtain ⟨N,h⟩:=e90 x.1 a
 exact ⟨T90 N,p90,qp _,YP N,(YR N x.1).trans h⟩
def g95:G:={ps:=[i68],rs:=[i68],dp:=true,pre:=fun x=>cx x.1,fn:=fun x=>(idA x.1,())}
def m95 (N:Nat) (a:Zf):ZO [i68]:=chk (kb (a.1:Zb)) (some ((((idL (a.1:Zb)):Zb),(a.2.1:Int),(a.2.2:Bool)),()))
def Γ95:Gam:=[(90,g90)]
theorem YU:Gam.get Γ95 90=some g90:=rfl
def AG:List Bool:=[O,O,I]
def Me:Nm:=⟨AG,[],false⟩
theorem YV:NmS Me AG [] false:=nmS
def tp:Nat->Tree:=fun i=>if i=1 then .quiet 0 (.quiet 1 (.alt 2 (.quiet 3 (.quiet 4 (.quiet 5 (.quiet 6 (.quiet 7 (.alt 8 .done .stop)))))) (.alt 3 (.alt 2 (.quiet 4 (.quiet 5 (.quiet 6 (.quiet 7 (.alt 8 .done .stop))))) (.alt 4 (.alt 2 (.quiet 5 (.quiet 6 (.quiet 7 (.alt 8 .done .stop)))) (.alt 5 (.alt 2 (.quiet 6 (.quiet 7 (.alt 8 .done .stop))) (.alt 6 (.alt 2 (.quiet 7 (.alt 8 .done .stop)) .stop) .stop)) .stop)) (.alt 5 (.alt 2 (.quiet 4 (.quiet 6 (.quiet 7 (.alt 8 .done .stop)))) (.alt 4 (.alt 2 (.quiet 6 (.quiet 7 (.alt 8 .done .stop))) (.alt 6 (.alt 2 (.quiet 7 (.alt 8 .done .stop)) .stop) .stop)) (.alt 6 (.alt 2 (.quiet 4 (.quiet 7 (.alt 8 .done .stop))) (.alt 4 (.alt 2 (.quiet 7 (.alt 8 .done .stop)) .stop) .stop)) .stop))) .stop))) (.alt 5 (.alt 2 (.quiet 3 (.quiet 4 (.quiet 6 (.quiet 7 (.alt 8 .done .stop))))) (.alt 3 (.alt 2 (.quiet 4 (.quiet 6 (.quiet 7 (.alt 8 .done .stop)))) (.alt 4 (.alt 2 (.quiet 6 (.quiet 7 (.alt 8 .done .stop))) (.alt 6 (.alt 2 (.quiet 7 (.alt 8 .done .stop)) .stop) .stop)) (.alt 6 (.alt 2 (.quiet 4 (.quiet 7 (.alt 8 .done .stop))) (.alt 4 (.alt 2 (.quiet 7 (.alt 8 .done .stop)) .stop) .stop)) .stop))) (.alt 6 (.alt 2 (.quiet 3 (.quiet 4 (.quiet 7 (.alt 8 .done .stop)))) (.alt 3 (.alt 2 (.quiet 4 (.quiet 7 (.alt 8 .done .stop))) (.alt 4 (.alt 2 (.quiet 7 (.alt 8 .done .stop)) .stop) .stop)) .stop)) .stop))) .stop))))else .done
def AH:Nat->Option Nm:=fun i=>if i=1 then some Me else none
theorem p95:qi tp (Tryz.f95.body.getD .skip)=true:=by kernel_rfl
def T95 (N:Nat):Tab:={tr:=tp,lp:=lp0,ex:=ex0,rg:=AH,jn:=jn0,fuel:=N}
theorem YW (N:Nat):qj Tryz.prog (T95 N):=qn fun _=>rfl
theorem YX (N:Nat):qr (T95 N) tp lp0 ex0 AH jn0 N false:=qt
theorem YY (N:Nat) (a:Zf):qd tt Γ95 (T95 N) (Tryz.f95.body.getD .skip) (qk tt true [i68] [.cell 2 68]) (qm [i68] 11 (a,()))=m95 N a:=by
 rw [m95];unfold Tryz.f95
 simp -implicitDefEqProofs [YX,tp,AH,YV,AG,YU,g90]
 try rfl
theorem e95 (a:Zf) (h:cx a): ∃N,m95 N a=some (idA a,()):=⟨0,by
 rw [m95,qc (show kb a.1 from h)];rfl⟩
theorem s95:Sound Tryz.prog 95 g95:=qo (tt:=tt) (Γ:=Γ95) hT (qe s90 ql) hm (fn:=Tryz.f95) Tryz.func95 (c:=Tryz.f95.body.getD .skip) (by kernel_rfl) (by kernel_rfl) fun x a=>by
 obtain ⟨N,h⟩:=e95 x.1 a
 exact ⟨T95 N,p95,qp _,YW N,(YY N x.1).trans h⟩
end
end Go.T
set_option linter.unusedSimpArgs false
set_option linter.unusedVariables false
namespace Go.Proofs
open Go.Shelf
def Tryz.srtL_ren:Go.Shelf.Ren:=⟨fun | 6=>126 | 15=>135 | 14=>134 | 28=>146 | 29=>147 | 20=>138 | 21=>139 | 22=>140 | 23=>141 | 24=>142 | 25=>143 | 26=>144 | 27=>145 | 46=>148 | 47=>149 | 48=>150 | 49=>151 | 50=>152 | 57=>153 | n=>n,fun | 22=>33 | 24=>68 | 25=>127 | 3=>3 | 39=>134 | 0=>0 | 53=>144 | 55=>146 | 4=>4 | 46=>137 | 45=>136 | 50=>141 | 5=>5 | 9=>9 | 66=>147 | 70=>151 | 76=>153 | 77=>154 | n=>n,fun | n=>n⟩
theorem Tryz.srtL:Go.Proofs.SlLaysF0.n6 Tryz.prog Tryz.srtL_ren:={
 mixed:=by kernel_rfl,
 f6:=⟨Tryz.f126.name,by decide,Tryz.func126.trans (congrArg some (by kernel_rfl))⟩,
 f14:=⟨Tryz.f134.name,by decide,Tryz.func134.trans (congrArg some (by kernel_rfl))⟩,
 f15:=Tryz.func135.trans (congrArg some (by kernel_rfl)),
 f20:=⟨Tryz.f138.name,by decide,Tryz.func138.trans (congrArg some (by kernel_rfl))⟩,
 f21:=⟨Tryz.f139.name,by decide,Tryz.func139.trans (congrArg some (by kernel_rfl))⟩,
 f22:=⟨Tryz.f140.name,by decide,Tryz.func140.trans (congrArg some (by kernel_rfl))⟩,
 f23:=⟨Tryz.f141.name,by decide,Tryz.func141.trans (congrArg some (by kernel_rfl))⟩,
 f24:=⟨Tryz.f142.name,by decide,Tryz.func142.trans (congrArg some (by kernel_rfl))⟩,
 f25:=⟨Tryz.f143.name,by decide,Tryz.func143.trans (congrArg some (by kernel_rfl))⟩,
 f26:=⟨Tryz.f144.name,by decide,Tryz.func144.trans (congrArg some (by kernel_rfl))⟩,
 f27:=⟨Tryz.f145.name,by decide,Tryz.func145.trans (congrArg some (by kernel_rfl))⟩,
 f28:=Tryz.func146.trans (congrArg some (by kernel_rfl)),
 f29:=Tryz.func147.trans (congrArg some (by kernel_rfl)),
 f46:=⟨Tryz.f148.name,by decide,Tryz.func148.trans (congrArg some (by kernel_rfl))⟩,
 f47:=Tryz.func149.trans (congrArg some (by kernel_rfl)),
 f48:=Tryz.func150.trans (congrArg some (by kernel_rfl)),
 f49:=⟨Tryz.f151.name,by decide,Tryz.func151.trans (congrArg some (by kernel_rfl))⟩,
 f50:=⟨Tryz.f152.name,by decide,Tryz.func152.trans (congrArg some (by kernel_rfl))⟩,
 f57:=⟨Tryz.f153.name,by decide,Tryz.func153.trans (congrArg some (by kernel_rfl))⟩,
 t0:=Tryz.underlying0,
 a0:=Tryz.isAgg0,
 z0:=Tryz.sizeOf0,
 a:=Tryz.zeroValue0,
 t3:=Tryz.underlying3,
 a3:=Tryz.isAgg3,
 z3:=Tryz.sizeOf3,
 d:=Tryz.zeroValue3,
 t4:=Tryz.underlying4,
 a4:=Tryz.isAgg4,
 z4:=Tryz.sizeOf4,
 f:=Tryz.zeroValue4,
 t5:=Tryz.underlying5,
 a5:=Tryz.isAgg5,
 z5:=Tryz.sizeOf5,
 i:=Tryz.zeroValue5,
 t9:=Tryz.underlying9,
 a9:=Tryz.isAgg9,
 z9:=Tryz.sizeOf9,
 q:=Tryz.zeroValue9,
 t22:=Tryz.underlying33,
 a22:=Tryz.isAgg33,
 z22:=Tryz.sizeOf33,
 b:=Tryz.zeroValue33,
 t25:=Tryz.underlying127,
 a25:=Tryz.isAgg127,
 z25:=Tryz.sizeOf127,
 c:=Tryz.zeroValue127,
 t39:=Tryz.underlying134,
 a39:=Tryz.isAgg134,
 z39:=Tryz.sizeOf134,
 e:=Tryz.zeroValue134,
 t45:=Tryz.underlying136,
 a45:=Tryz.isAgg136,
 z45:=Tryz.sizeOf136,
 g:=Tryz.zeroValue136,
 t46:=Tryz.underlying137,
 a46:=Tryz.isAgg137,
 z46:=Tryz.sizeOf137,
 h:=Tryz.zeroValue137,
 t50:=Tryz.underlying141,
 a50:=Tryz.isAgg141,
 z50:=Tryz.sizeOf141,
 j:=Tryz.zeroValue141,
 t53:=Tryz.underlying144,
 a53:=Tryz.isAgg144,
 z53:=Tryz.sizeOf144,
 k:=Tryz.zeroValue144,
 t55:=Tryz.underlying146,
 a55:=Tryz.isAgg146,
 z55:=Tryz.sizeOf146,
 l:=Tryz.zeroValue146,
 t66:=Tryz.underlying147,
 a66:=Tryz.isAgg147,
 z66:=Tryz.sizeOf147,
 m:=Tryz.zeroValue147,
 t70:=Tryz.underlying151,
 a70:=Tryz.isAgg151,
 z70:=Tryz.sizeOf151,
 n:=Tryz.zeroValue151,
 t76:=Tryz.underlying153,
 a76:=Tryz.isAgg153,
 z76:=Tryz.sizeOf153,
 o:=Tryz.zeroValue153,
 t77:=Tryz.underlying154,
 a77:=Tryz.isAgg154,
 z77:=Tryz.sizeOf154,
 p:=Tryz.zeroValue154}
end Go.Proofs
namespace Go.T
noncomputable section
open Go Go.Proofs
set_option maxHeartbeats 4000000
set_option maxRecDepth 100000
def bT (xs:Ze):Ze:=j3 xs
def dM (xs:Ze):List Nat:=iy xs
def gj:Gsr:={e:=68,t:=Y68,cmp:=127,pre:=zd (fun _ _=>True) j5 bT,fv:=bT}
theorem YZ:(Own1.sr gj).Ok Tryz.prog 126:=
 Wq Tryz.srtL rfl ⟨_,Tryz.func126,by kernel_rfl,by kernel_rfl⟩ (ti:=i68) rfl Tryz.isAgg68 Tryz.sizeOf68 YK
def gk (N:Nat) (c:Int) (b:Ze) (e f:Int) (k0:(Ze)->ZO [i35]):Nat->Int->(Ze)->ZO [i35]
 | 0,_,_=>none
 | n+1,a,d=>bif (decide (a<e))then (chk (0<=a/\a<(b.length:Int)) (chk (mj (b.getD a.toNat (qa Y68))) (bif (!((bo (b.getD a.toNat (qa Y68))):Bool))then (bif (decide ((0:Int)<(((b.getD a.toNat (qa Y68)).2).1:Int)))then (chk (hl c) (some ((eF c),())))else (bif (decide ((((b.getD a.toNat (qa Y68)).2).1:Int)=(0:Int)))then (bif (((b.getD a.toNat (qa Y68)).2).2:Bool)then (chk (hl c) (some ((eF c),())))else (gk N c b e f k0 n (IntKind.i64.wrap (a+(1:Int))) d))else (gk N c b e f k0 n (IntKind.i64.wrap (a+(1:Int))) d)))else (chk (cx (b.getD a.toNat (qa Y68))) (chk (d.length+([(idA (b.getD a.toNat (qa Y68)))]:Ze).length<=1048576) (gk N c b e f k0 n (IntKind.i64.wrap (a+(1:Int))) (d++([(idA (b.getD a.toNat (qa Y68)))]:Ze))))))))else (k0 d)
def fG (N:Nat) (f:Int) (c:List (Val (hd Y68))) (d:Ze) (g:Int) (b:List (Val (hd Y68))) (h:Int) (k2:(List (Val (hd Y68)))->ZO [i35]):Nat->Int->(List (Val (hd Y68)))->ZO [i35]
 | 0,_,_=>none
 | n+1,a,e=>bif (decide (a<f))then (chk (0<=a/\a<(b.length:Int)) (chk (a.toNat<b.length) (bif (decide ((IntKind.i64.wrap (a+(1:Int)))<(b.length:Int)))then (chk (0<=(IntKind.i64.wrap (a+(1:Int)))/\(IntKind.i64.wrap (a+(1:Int)))<(b.length:Int)) (chk ((IntKind.i64.wrap (a+(1:Int))).toNat<b.length) (chk (qZ Y68 d c=c/\((b.getD a.toNat (qa (hd Y68)))∈c/\(b.getD ((IntKind.i64.wrap (a+(1:Int))).toNat) (qa (hd Y68)))∈c)/\fF (lk Y68 c d (b.getD a.toNat (qa (hd Y68)))) (lk Y68 c d (b.getD ((IntKind.i64.wrap (a+(1:Int))).toNat) (qa (hd Y68))))) (bif (decide (((cN (lk Y68 c d (b.getD a.toNat (qa (hd Y68)))) (lk Y68 c d (b.getD ((IntKind.i64.wrap (a+(1:Int))).toNat) (qa (hd Y68))))):Int)=(0:Int)))then (fG N f c d g b h k2 n (IntKind.i64.wrap (a+(1:Int))) e)else (chk (e.length+([(b.getD a.toNat (qa (hd Y68)))]:List (Val (hd Y68))).length<=1048576) (fG N f c d g b h k2 n (IntKind.i64.wrap (a+(1:Int))) (e++([(b.getD a.toNat (qa (hd Y68)))]:List (Val (hd Y68))))))))))else (chk (e.length+([(b.getD a.toNat (qa (hd Y68)))]:List (Val (hd Y68))).length<=1048576) (fG N f c d g b h k2 n (IntKind.i64.wrap (a+(1:Int))) (e++([(b.getD a.toNat (qa (hd Y68)))]:List (Val (hd Y68)))))))))else (k2 e)
def tq (N:Nat) (c:Int) (d:Ze):ZO [i35]:=gk N c d (d.length:Int) (0:Int) (fun (a:Ze)=>chk (gj.pre a) (fA (fun b:List Nat×List (Val (hd Y68))=>eV Y68 b.2 (bT a)) (fun b=>fG N (b.2.length:Int) b.2 (bT a) (0:Int) b.2 c (fun (e:List (Val (hd Y68)))=>chk (e=(dM (bT a)).map (fun i=>b.2.getD i (qa (hd Y68)))/\(dM (bT a)).Nodup/\(∀i∈(dM (bT a)),i<(bT a).length)/\qZ Y68 (bT a) b.2=b.2/\b.2.length=(bT a).length) (some ((c,((dM (bT a)).map (fun i=>(bT a).getD i (qa Y68)))),()))) N (0:Int) ([]:List (Val (hd Y68)))))) N (0:Int) ([]:Ze)
def iJ:Gam:=[(95,g95),(124,j6),(125,tl),(128,j9)]
theorem Mf:Gam.get iJ 95=some g95/\Gam.get iJ 124=some j6/\Gam.get iJ 125=some tl/\Gam.get iJ 128=some j9:=⟨rfl,rfl,rfl,rfl⟩
def ts:List Bool:=[I,O,O,O,I,I,O,O,O,O,O,O,I,I,I]
def AI:Nm:=⟨ts,[],false⟩
theorem Mg:NmS AI ts [] false:=nmS
def tu:List Bool:=[O,O,O,O,I,I,O,O,I,O,O,O,O,O,O,O,O,O,O,O,O,O,O,O,O,O,O,O,O,O,O,O,O,O,O,O,O,O,O,O,O,O,O,O,O,O,I,I,I]
def AJ:Nm:=⟨tu,[],false⟩
theorem Mh:NmS AJ tu [] false:=nmS
def AK:List Bool:=[I,O,O,O,I,I]
def Mi:Nm:=⟨AK,[],false⟩
theorem Y0:NmS Mi AK [] false:=nmS
def AL:List Bool:=[O,O,O,O,I,O,O,O,I]
def Mj:Nm:=⟨AL,[],false⟩
theorem Y1:NmS Mj AL [] false:=nmS
def tv:Nat->Tree:=fun i=>if i=15 then .quiet 0 (.quiet 1 (.quiet 2 (.quiet 3 (.quiet 4 (.quiet 5 (.quiet 6 (.quiet 7 (.quiet 8 (.quiet 9 (.quiet 10 (.quiet 11 (.alt 12 (.quiet 13 (.quiet 14 .done)) .stop))))))))))))else .done
def tw:Nat->Nm:=fun i=>if i=3 then AI else if i=13 then AJ else ⟨[],[],false⟩
def kc:Sem:=r9 [(126,.sr gj)]
def hn:Nat->Option Jn:=fun i=>if i=11 then some (.at none (some ttH))else if i=12 then some (.at (some (.opn 1 Y68)) none)else if i=16 then some (.at none (some ttH))else if i=18 then some (.at (some (.cls 3 0 Y68 dM)) none)else none
def tx:Nat->Option Nm:=fun i=>if i=0 then some Mi else if i=2 then some Mj else none
theorem Y2:qi tv (Tryz.f112.body.getD .skip)=true:=by kernel_rfl
def mm (N:Nat):Tab:={tr:=tv,lp:=tw,ex:=tx,rg:=rg0,jn:=hn,fuel:=N,sem:=kc}
theorem Y3 (N:Nat):qj Tryz.prog (mm N):=fun id j t h a=>by
 have h:hn id=_:=h
 unfold hn at h
 repeat' split at h
 all_goals first | (simp at h;done) | (simp only [Option.some.injEq]at h;subst h;simp [Jn.tb]at a;done) | (simp only [Option.some.injEq]at h;subst h;simp only [Jn.tb,Option.some.injEq]at a;subst a;exact hTH)
theorem oj (N:Nat):fC (mm N) tv tw tx rg0 hn N false kc:=gf
def Mk:Code:=cut [I,I,O,I,I,I] (Tryz.f112.body.getD .skip)
theorem Y4 (N:Nat) (a:Int) (f:Ze) (g d:Int) {k0:(Ze)->ZO [i35]} {Q:ZQ [i35]} {c:Code} (j:c=Mk) (k: ∀st,Q .ret st=qz tt true [i35] [.cell 4 35] st) (i: ∀(h:Ze),Q (.exit 0) ⟨[.one (.int .i64 a),u,u,u,.one (.ptr 0 0 0),.one (.own 1),u,u,u,u,u,u,u,u,u,u,u,u,u,u,u,u,u,u,u,u,u,u,u,u,u,u,u,u,u,u,u,u,u,u,u,u,u,u,u,u,u,u,u,u,u,u,u,u,u,u,u,u,u,u,u,u,u,u,u,u,u,u,u,u,u,u,u,u,u,u],[.box [.int .i64 d,.nils],.row 68 Y68 h true true 0]⟩=k0 h): ∀(n:Nat) (b:Int) (e:Ze),qw (qd tt iJ (mm N) c) false AI Q n ⟨[.one (.int .i64 a),u,u,u,.one (.ptr 0 0 0),.one (.own 1),u,u,u,u,u,u,.one (.sl 68 Y68 f 2),.one (.int .i64 g),.one (.int .i64 b),u,u,u,u,u,u,u,u,u,u,u,u,u,u,u,u,u,u,u,u,u,u,u,u,u,u,u,u,u,u,u,u,u,u,u,u,u,u,u,u,u,u,u,u,u,u,u,u,u,u,u,u,u,u,u,u,u,u,u,u,u],[.box [.int .i64 d,.nils],.row 68 Y68 e true true 0]⟩=gk N a f g d k0 n b e:=by
 intro n;induction n with
 | zero=>intros;rfl
 | succ n l=>
   intro b e
   rw [qD,qE j,gk];unfold Mk Tryz.f112
   simp -implicitDefEqProofs [oj,tx,hn,kc,gj,Mg,ts,Y0,AK,Mf,g95,j6,tl,k,i,l]
def Ml:Code:=cut [I,I,I,I,I,O,I,I,I] (Tryz.f112.body.getD .skip)
theorem Y5 (N:Nat) (F:List Nat) (h:Int) (b:List (Val (hd Y68))) (d:Ze) (e:Int) (i:List (Val (hd Y68))) (f:Int) {k2:(List (Val (hd Y68)))->ZO [i35]} {Q:ZQ [i35]} {c:Code} (k:c=Ml) (m: ∀st,Q .ret st=qz tt true [i35] [.cell 4 35] st) (h2: ∀(j:List (Val (hd Y68))),Q (.exit 2) ⟨[u,u,u,u,.one (.ptr 1 0 0),u,u,u,.one (.ptr 2 0 0),u,u,u,u,u,u,u,u,u,u,u,u,u,u,u,u,u,u,u,u,u,u,u,u,u,u,u,u,u,u,u,u,u,u,u,u,u,u,u,u,u,u,u,u,u,u,u,u,u,u,u,u,u,u,u,u,u,u,u,u,u,u,u,u,u,u,u],[.nst F Y68 b d,.box [.int .i64 e,.nils],.box [.int .i64 f,.own 3],.row 68 (hd Y68) j true true 0]⟩=k2 j): ∀(n:Nat) (a:Int) (g:List (Val (hd Y68))),qw (qd tt iJ (mm N) c) false AJ Q n ⟨[u,u,u,u,.one (.ptr 1 0 0),.one (.own 2),u,u,.one (.ptr 3 0 0),u,u,u,u,u,u,u,u,u,u,u,u,u,u,u,u,u,u,u,u,u,u,u,u,u,u,u,u,u,u,u,u,u,u,u,u,u,.one (.own 2),.one (.int .i64 h),.one (.int .i64 a),u,u,u,u,u,u,u,u,u,u,u,u,u,u,u,u,u,u,u,u,u,u,u,u,u,u,u],[.nst F Y68 b d,.box [.int .i64 e,.nils],.row 68 (hd Y68) i true true 0,.box [.int .i64 f,.own 4],.row 68 (hd Y68) g true true 0]⟩=fG N h b d e i f k2 n a g:=by
 intro n;induction n with
 | zero=>intros;rfl
 | succ n l=>
   intro a g
   rw [qD,qE k,fG];unfold Ml Tryz.f112
   simp -implicitDefEqProofs [oj,tv,tx,hn,kc,gj,l7 (id:=16),Mh,tu,Y1,AL,Mf,j9,h2,l]
theorem Y6 (N:Nat) (c:Int) (e:Ze):qd tt iJ (mm N) (Tryz.f112.body.getD .skip) (qk tt true [i35] [.cell 4 35]) (qm [i3,i33] 76 (c,e,()))=tq N c e:=by
 unfold Tryz.f112
 simp -implicitDefEqProofs [oj,tw,hn,kc,gj,Mg,ts]
 rewrite [Y4 (k0:=(fun (a:Ze)=>chk (gj.pre a) (fA (fun b:List Nat×List (Val (hd Y68))=>eV Y68 b.2 (bT a)) (fun b=>fG N (b.2.length:Int) b.2 (bT a) (0:Int) b.2 c (fun (d:List (Val (hd Y68)))=>chk (d=(dM (bT a)).map (fun i=>b.2.getD i (qa (hd Y68)))/\(dM (bT a)).Nodup/\(∀i∈(dM (bT a)),i<(bT a).length)/\qZ Y68 (bT a) b.2=b.2/\b.2.length=(bT a).length) (some ((c,((dM (bT a)).map (fun i=>(bT a).getD i (qa Y68)))),()))) N (0:Int) ([]:List (Val (hd Y68))))))) N _ _ _ _ ?_ ?_ ?_]
 ·rewrite [tq];first | rfl | simp -implicitDefEqProofs []
 ·rfl
 ·intro;simp only [qA,qC,qJ]
 ·intro a;simp -implicitDefEqProofs [oj,tw,hn,kc,ir,gj,l7 (id:=11),l7 (id:=12),Mh,tu]
  repeat' (first | refine J7 fun _=> ?_ | refine J8 fun b _=> ?_)
  rewrite [Y5 (k2:=(fun (d:List (Val (hd Y68)))=>chk (d=(dM (bT a)).map (fun i=>b.2.getD i (qa (hd Y68)))/\(dM (bT a)).Nodup/\(∀i∈(dM (bT a)),i<(bT a).length)/\qZ Y68 (bT a) b.2=b.2/\b.2.length=(bT a).length) (some ((c,((dM (bT a)).map (fun i=>(bT a).getD i (qa Y68)))),())))) N _ _ _ _ _ _ _ ?_ ?_ ?_]
  ·first | rfl | simp -implicitDefEqProofs []
  ·rfl
  ·intro;simp only [qA,qC,qJ]
  ·intro d;simp -implicitDefEqProofs [oj,hn,kc,gj,l7 (id:=18)]
def bU (a:Zf):Bool:= !bo a&&(decide ((0:Int)<a.2.1)||(decide ((a.2.1:Int)=0)&&a.2.2))
def qS (d:Int) (l:Ze):Zj:=bif l.any bU then eF d else (d,eD (l.filter bo))
def okL (d:Int) (l:Ze):Prop:=(0<=d/\d<=4)/\l.length<=1048576/\ ∀a∈l,okA a/\(List.length (α:=Int) a.1:Int)=d
def dy (d:Int) (l:Ze):Prop:=okL d l
theorem AM {ρ:Type} {r:Option ρ} {k:Ze->Option ρ}: ∀(xs:Ze) (i:Nat) (s:Ze),s.length+xs.length<=1048576->
 q5 (fun _ (x:Zf) (s:Ze) K=>bif bU x then r else bif bo x then chk (s.length+[x].length<=1048576) (K (s++[x]))else K s) i xs s k=bif xs.any bU then r else k (s++xs.filter bo)
 | [],_,s,_=>by rw [q5];simp
 | x::xs,i,s,h=>by
   simp only [List.length_cons]at h
   rw [q5]
   cases a:bU x with
   | true=>simp [a]
   | false=>
     cases b:bo x with
     | true=>simp only [cond_false,cond_true];rw [qc (by simp;omega),AM xs _ _ (by simp;omega)];simp [a,b]
     | false=>simp only [cond_false];rw [AM xs _ _ (by omega)];simp [a,b]
theorem iK {a b:Zf} {d:Int} (c:okA a/\(List.length (α:=Int) a.1:Int)=d) (e:okA b/\(List.length (α:=Int) b.1:Int)=d):j5 a b=cf (atm a) (atm b):=by
 have h1:qy a=true:=c.1
 have h2:qy b=true:=e.1
 have f:List.length (α:=Int) a.1=List.length (α:=Int) b.1:=by have:=c.2;have:=e.2;omega
 simp [j5,h1,h2,f]
theorem Y7 {d:Int} {l:Ze} (o:l.length<=1048576) (h: ∀a∈l,okA a/\(List.length (α:=Int) a.1:Int)=d) (q: ∀a∈l,bo a=true):zd (fun _ _=>True) j5 bT l:=by
 refine ⟨o,fun _ _ _ _=>trivial,fun x c=> ?_,fun x c y e z f h1 h2=> ?_,fun x c y e z f h1 h2=> ?_,fun ys i p=> ?_⟩
 ·rw [iK (h x c) (h x c),df.self];omega
 ·rw [iK (h x c) (h y e)]at h1;rw [iK (h y e) (h z f)]at h2;rw [iK (h x c) (h z f)]
  exact df.lt_le h1 (Int.le_of_lt h2)
 ·rw [iK (h x c) (h y e)]at h1;rw [iK (h y e) (h z f)]at h2;rw [iK (h x c) (h z f)]
  have r:=df.anti (atm x) (atm y);have a2:=df.anti (atm y) (atm z);have a3:=df.anti (atm x) (atm z)
  have:=df.tr (atm z) (atm y) (atm x) (by omega) (by omega)
  omega
 ·refine Ww (fun a g=>L0 (h a g).1 (q a g)) i (p.imp_of_mem fun {a b} g m k=> ?_)
  have j:=i.mem_iff.1 g
  have n:=i.mem_iff.1 m
  rwa [iK (h b n) (h a j)]at k
theorem AN {ρ α:Type} {p:Nat->Bool} {k:List α->Option ρ} {d:α}: ∀(m i:Nat) (hs s:List α),hs.length - i=m->i<=hs.length->s.length+m<=1048576->
 q5 (fun j (x:α) (s:List α) K=>bif p j then K s else chk (s.length+[x].length<=1048576) (K (s++[x]))) i (hs.drop i) s k=k (s++((List.range' i m).filter fun i=> !p i).map fun i=>hs.getD i d)
 | 0,i,hs,s,h,c,_=>by rw [List.drop_eq_nil_of_le (by omega),q5];simp
 | m+1,i,hs,s,h,c,e=>by
   have a:i<hs.length:=by omega
   rw [cL a,q5,List.range'_succ]
   cases b:p i with
   | true=>simp only [cond_true];rw [AN (d:=d) m (i+1) hs s (by omega) (by omega) (by omega)];simp [b]
   | false=>
     simp only [cond_false]
     rw [qc (by simp;omega),AN (d:=d) m (i+1) hs _ (by omega) (by omega) (by simp;omega)]
     simp [b,List.getD,a]
def gl:G:={ps:=[i3,i33],rs:=[i35],dp:=true,pre:=fun x=>dy x.1 x.2.1,fn:=fun x=>(qS x.1 x.2.1,())}
theorem Y8 (N:Nat) (d:Int) (l:Ze) (K:Ze->ZO [i35]) (h:okL d l) (n:Nat) (c:l.length<n) (s:Ze):gk N d l l.length 0 K n 0 s=q5 (fun _ (x:Zf) (s:Ze) K=>bif bU x then some ((eF d,()))else bif bo x then chk (s.length+[x].length<=1048576) (K (s++[x]))else K s) 0 l s K:=
 bp (xs:=l) (F:=fun n i s=>gk N d l l.length 0 K n i s) h.2.1 (fun n i s a=>by
  obtain ⟨b,hlen⟩:=h.2.2 _ (List.getElem_mem a)
  have e:=(ch b).1
  have hd:=h.1
  rw [gk,qg (by omega),qc (by omega),qB a,qc (show mj _ from b)]
  rw [qc (show hl d from ⟨hd.1,by omega⟩),qc (show cx _ from by unfold cx;omega)]
  unfold bU
  cases f:bo l[i]with
  | true=>simp only [Bool.not_true,cond_false,Bool.false_and,cond_true];try rfl
  | false=>
    by_cases c1:(0:Int)<l[i].2.1
    ·simp only [Bool.not_false,cond_true,c1,decide_true,Bool.true_or,Bool.and_self];try rfl
    ·by_cases c2:(l[i].2.1:Int)=0
     ·cases hs:l[i].2.2<;>simp only [Bool.not_false,cond_true,c2,decide_true,Bool.and_true,Bool.and_false,cond_false,Bool.true_and]<;>(try rfl)
     ·simp only [Bool.not_false,cond_true,c1,c2,decide_false,Bool.false_or,Bool.and_false,Bool.false_and,cond_false]) (fun n i s a=>by rw [gk,qf (by omega)]) n s c
theorem Y9 (N:Nat) (d:Int) (S:Ze) (hs:List (Val (hd Y68))) (K:List (Val (hd Y68))->ZO [i35]) (e:eV Y68 hs S) (o:S.length<=1048576) (f: ∀a∈S,okA a/\(List.length (α:=Int) a.1:Int)=d) (n:Nat) (m:hs.length<n) (s:List (Val (hd Y68))):fG N hs.length hs S 0 hs d K n 0 s=q5 (fun j (x:Val (hd Y68)) (s:List (Val (hd Y68))) K=>bif gh S j then K s else chk (s.length+[x].length<=1048576) (K (s++[x]))) 0 hs s K:=
 have p:hs.length=S.length:=e.1
 bp (xs:=hs) (F:=fun n i s=>fG N hs.length hs S 0 hs d K n i s) (by omega) (fun n i s b=>by
  have h1:i<S.length:=by omega
  have k:(i:Int).toNat=i:=rfl
  rw [fG,qg (by omega),qc (by omega),k,qc b]
  rw [l8 b (by omega)]
  have g: ∀j,j<S.length->lk Y68 hs S (hs.getD j (qa (hd Y68)))=S.getD j (qa Y68):=fun j c=>U9 e c
  have hm: ∀j,j<hs.length->hs.getD j (qa (hd Y68))∈hs:=fun j c=>by rw [nS c];exact List.getElem_mem _
  have h: ∀j,j<S.length->S.getD j (qa Y68)∈S:=fun j c=>by rw [nS c];exact List.getElem_mem _
  by_cases h2:i+1<hs.length
  ·have l:((i+1:Nat):Int).toNat=i+1:=rfl
   have m1:=f _ (h i h1)
   have m2:=f _ (h (i+1) (by omega))
   rw [qg (by omega),l,qc (by omega),qc h2,g i h1,g (i+1) (by omega),qc ⟨e.2.1,⟨hm i b,hm (i+1) h2⟩,m1.1,m2.1,by have:=m1.2;have:=m2.2;omega⟩]
   have e3:gh S i=decide ((cN (S.getD i (qa Y68)) (S.getD (i+1) (qa Y68)))=0):=by
        unfold gh
        rw [show decide (i+1<S.length)=true by simp;omega,Bool.true_and]
        rfl
   rw [e3,nS b]
  ·rw [qf (by omega)]
   have e3:gh S i=false:=by
        unfold gh
        rw [show decide (i+1<S.length)=false by simp;omega,Bool.false_and]
   rw [e3,nS b]
   rfl) (fun n i s b=>by rw [fG,qf (by omega)]) n s m
theorem Zm (d:Int) (l:Ze) (h:dy d l): ∃N,tq N d l=some (qS d l,()):=⟨l.length+1,by
 have n:=h
 obtain ⟨y,r,s⟩:=h
 rw [tq,Y8 _ _ _ _ n _ (Nat.lt_succ_self _)]
 refine (AM l 0 [] (by simpa using r)).trans ?_
 rw [qS]
 cases w:l.any bU with
 | true=>rfl
 | false=>
   simp only [cond_false,List.nil_append]
   generalize g:l.filter bo=K
   have u:K.length<=l.length:=by rw [<-g];exact List.length_filter_le _ _
   have c: ∀a∈K,(okA a/\(List.length (α:=Int) a.1:Int)=d)/\bo a=true:=fun a b=>by
    rw [<-g]at b
    exact ⟨s a (List.mem_filter.1 b).1,(List.mem_filter.1 b).2⟩
   rw [qc (show gj.pre K from Y7 (by omega) (fun a b=>(c a b).1) fun a b=>(c a b).2)]
   generalize j:bT K=S
   have m:S.Perm K:=by rw [<-j];exact sa K
   have o: ∀a∈S,okA a/\(List.length (α:=Int) a.1:Int)=d:=fun a b=>(c a (m.mem_iff.1 b)).1
   have v:S.length=K.length:=m.length_eq
   obtain ⟨t,g0⟩:=Jb Y68 S
   refine rS ⟨([],t),g0⟩ fun p f=> ?_
   obtain ⟨F,hs⟩:=p
   have f:eV Y68 hs S:=f
   have k:hs.length=S.length:=f.1
   dsimp only
   rw [Y9 _ d S hs _ f (by omega) o _ (by omega)]
   refine (AN (d:=qa (hd Y68)) hs.length 0 hs [] (by omega) (by omega) (by simp;omega)).trans ?_
   have e:(List.range' 0 hs.length).filter (fun i=> !gh S i)=dM S:=by
    rw [k];unfold dM iy;rw [List.range_eq_range']
   rw [e,List.nil_append,qc ⟨rfl,Wx S,fun i q=>sb q,f.2.1,k⟩]
   have:=Wz (xs:=K) fun a b=>L0 (c a b).1.1 (c a b).2
   rw [show j3 K=S from j]at this
   exact congrArg (fun x=>some ((d,x),())) this⟩
theorem AO:Sound Tryz.prog 112 gl:=qo (tt:=tt) (Γ:=iJ) hT (qe s95 (qe L2 (qe YT (qe Mb ql)))) hm (fn:=Tryz.f112) Tryz.func112 (c:=Tryz.f112.body.getD .skip) (by kernel_rfl) (by kernel_rfl) fun x a=>by
 obtain ⟨N,h⟩:=Zm x.1 x.2.1 a
 exact ⟨mm N,Y2,Wk (Wm YZ Wl),Y3 N,(Y6 N x.1 x.2.1).trans h⟩
end
end Go.T
