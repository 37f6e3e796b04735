import Derived.Test.YtllelgnepalfjaaGreatE45
set_option linter.unusedSimpArgs false
set_option linter.unusedVariables false
namespace Go.T
noncomputable section
open Go Go.Proofs
set_option maxHeartbeats 4000000
set_option maxRecDepth 100000
abbrev MxV:=Val qv
def xa (m:MxV):Prop:=(List.length (α:=Int) m.1<=100/\List.length (α:=Int) m.2.2.2<=100)/\qq m.2.1=true/\(∀z∈(m.1:List Int),qq z=true)/\ ∀z∈(m.2.2.2:List Int),qq z=true
def xb (a:MxV) (p:Int) (b:MxV) (q:Int):Prop:=(List.length (α:=Int) a.1=List.length (α:=Int) b.1/\List.length (α:=Int) a.2.2.2=List.length (α:=Int) b.2.2.2)/\xa a/\xa b/\(0<=p/\p<=400000000)/\(0<=q/\q<=400000000)
def g73:G:={ps:=[bE,i3,bE,i3],rs:=[bE,i4],dp:=true,pre:=fun x=>xb x.1 x.2.1 x.2.2.1 x.2.2.2.1,fn:=fun x=>((jn x.1 x.2.1 x.2.2.1 x.2.2.2.1).1,(jn x.1 x.2.1 x.2.2.1 x.2.2.2.1).2,())}
def pO (N:Nat) (c d:Int) (l:Zb) (e:Int) (g:Bool) (m h:Zb) (b:Int) (f:Bool) (i:Zb) (j:Int) (k:Bool) (a:Int->Bool->ZO [bE,i4]) (_:Nat):ZO [bE,i4]:=bif g then (a (IntKind.i64.wrap ((IntKind.i64.wrap (c*e))+(IntKind.i64.wrap (d*b)))) true)else (a (IntKind.i64.wrap ((IntKind.i64.wrap (c*e))+(IntKind.i64.wrap (d*b)))) f)
def ju (N:Nat) (d e:Int) (b:Zb) (g:Int) (h:Bool) (i c:Zb) (j:Int) (k:Bool) (l:Zb) (m:Int) (o:Bool) (p:Int) (q:Bool) (k0:(Zb)->ZO [bE,i4]):Nat->Int->(Zb)->ZO [bE,i4]
 | 0,_,_=>none
 | n+1,a,f=>bif (decide (a<(b.length:Int)))then (chk (0<=a/\a<(b.length:Int)) (chk (0<=a/\a<(c.length:Int)) (chk (f.length+([(IntKind.i64.wrap ((IntKind.i64.wrap (d*((b.getD a.toNat (qa Zd)):Int)))+(IntKind.i64.wrap (e*((c.getD a.toNat (qa Zd)):Int)))))]:Zb).length<=1048576) (ju N d e b g h i c j k l m o p q k0 n (IntKind.i64.wrap (a+(1:Int))) (f++([(IntKind.i64.wrap ((IntKind.i64.wrap (d*((b.getD a.toNat (qa Zd)):Int)))+(IntKind.i64.wrap (e*((c.getD a.toNat (qa Zd)):Int)))))]:Zb))))))else (k0 f)
def jv (N:Nat) (d e:Int) (g:Zb) (h:Int) (i:Bool) (b j:Zb) (k:Int) (l:Bool) (c:Zb) (m:Int) (o:Bool) (p:Int) (q:Bool) (r:Zb) (k2:(Zb)->ZO [bE,i4]):Nat->Int->(Zb)->ZO [bE,i4]
 | 0,_,_=>none
 | n+1,a,f=>bif (decide (a<(b.length:Int)))then (chk (0<=a/\a<(b.length:Int)) (chk (0<=a/\a<(c.length:Int)) (chk (f.length+([(IntKind.i64.wrap ((IntKind.i64.wrap (d*((b.getD a.toNat (qa Zd)):Int)))+(IntKind.i64.wrap (e*((c.getD a.toNat (qa Zd)):Int)))))]:Zb).length<=1048576) (jv N d e g h i b j k l c m o p q r k2 n (IntKind.i64.wrap (a+(1:Int))) (f++([(IntKind.i64.wrap ((IntKind.i64.wrap (d*((b.getD a.toNat (qa Zd)):Int)))+(IntKind.i64.wrap (e*((c.getD a.toNat (qa Zd)):Int)))))]:Zb))))))else (k2 f)
def hV (N:Nat) (c e:Int) (f:Bool) (g:Int) (h:Bool) (i:Zb) (k4:Bool->(Zb)->ZO [bE,i4]):Nat->Bool->Int->(Zb)->ZO [bE,i4]
 | 0,_,_,_=>none
 | n+1,d,a,b=>bif (decide (a<(b.length:Int)))then (chk (0<=a/\a<(b.length:Int)) (chk (a.toNat<b.length) (chk (c≠0) (chk (0<=a/\a<(b.length:Int)) (chk (a.toNat<b.length) (bif d then (chk (0<=a/\a<((b.set a.toNat (IntKind.i64.wrap (((b.getD a.toNat (qa Zd)):Int).tdiv c))).length:Int)) (chk (a.toNat<(b.set a.toNat (IntKind.i64.wrap (((b.getD a.toNat (qa Zd)):Int).tdiv c))).length) (hV N c e f g h i k4 n ((qq (((b.set a.toNat (IntKind.i64.wrap (((b.getD a.toNat (qa Zd)):Int).tdiv c))).getD a.toNat (qa Zd)):Int)):Bool) (IntKind.i64.wrap (a+(1:Int))) (b.set a.toNat (IntKind.i64.wrap (((b.getD a.toNat (qa Zd)):Int).tdiv c))))))else (hV N c e f g h i k4 n false (IntKind.i64.wrap (a+(1:Int))) (b.set a.toNat (IntKind.i64.wrap (((b.getD a.toNat (qa Zd)):Int).tdiv c))))))))))else (k4 d b)
def gK (N:Nat) (c e:Int) (f:Bool) (g:Int) (h:Bool) (i:Zb) (k6:Bool->(Zb)->ZO [bE,i4]):Nat->Bool->Int->(Zb)->ZO [bE,i4]
 | 0,_,_,_=>none
 | n+1,d,a,b=>bif (decide (a<(b.length:Int)))then (chk (0<=a/\a<(b.length:Int)) (chk (a.toNat<b.length) (chk (c≠0) (chk (0<=a/\a<(b.length:Int)) (chk (a.toNat<b.length) (bif d then (chk (0<=a/\a<((b.set a.toNat (IntKind.i64.wrap (((b.getD a.toNat (qa Zd)):Int).tdiv c))).length:Int)) (chk (a.toNat<(b.set a.toNat (IntKind.i64.wrap (((b.getD a.toNat (qa Zd)):Int).tdiv c))).length) (gK N c e f g h i k6 n ((qq (((b.set a.toNat (IntKind.i64.wrap (((b.getD a.toNat (qa Zd)):Int).tdiv c))).getD a.toNat (qa Zd)):Int)):Bool) (IntKind.i64.wrap (a+(1:Int))) (b.set a.toNat (IntKind.i64.wrap (((b.getD a.toNat (qa Zd)):Int).tdiv c))))))else (gK N c e f g h i k6 n false (IntKind.i64.wrap (a+(1:Int))) (b.set a.toNat (IntKind.i64.wrap (((b.getD a.toNat (qa Zd)):Int).tdiv c))))))))))else (k6 d b)
def m73 (N:Nat) (b:Val qv) (g:Int) (c:Val qv) (h:Int):ZO [bE,i4]:=pO N g h (b.1:Zb) (b.2.1:Int) (b.2.2.1:Bool) (b.2.2.2:Zb) (c.1:Zb) (c.2.1:Int) (c.2.2.1:Bool) (c.2.2.2:Zb) (0:Int) false (fun (a:Int) (f:Bool)=>ju N g h (b.1:Zb) (b.2.1:Int) (b.2.2.1:Bool) (b.2.2.2:Zb) (c.1:Zb) (c.2.1:Int) (c.2.2.1:Bool) (c.2.2.2:Zb) (0:Int) false a f (fun (d:Zb)=>jv N g h (b.1:Zb) (b.2.1:Int) (b.2.2.1:Bool) (b.2.2.2:Zb) (c.1:Zb) (c.2.1:Int) (c.2.2.1:Bool) (c.2.2.2:Zb) (0:Int) false a f d (fun (e:Zb)=>chk (([]:Zb).length+d.length<=1048576) (chk ((([]:Zb)++d).length+e.length<=1048576) (chk (fb ((([]:Zb)++d)++e) a) (chk ((max (1:Int) ((b6 ((([]:Zb)++d)++e) a):Int))≠0) (hV N (max (1:Int) ((b6 ((([]:Zb)++d)++e) a):Int)) (0:Int) false (IntKind.i64.wrap (a.tdiv (max (1:Int) ((b6 ((([]:Zb)++d)++e) a):Int)))) f e (fun (j:Bool) (i:Zb)=>gK N (max (1:Int) ((b6 ((([]:Zb)++d)++e) a):Int)) (0:Int) false (IntKind.i64.wrap (a.tdiv (max (1:Int) ((b6 ((([]:Zb)++d)++e) a):Int)))) f i (fun (k:Bool) (l:Zb)=>some ((i,(IntKind.i64.wrap (a.tdiv (max (1:Int) ((b6 ((([]:Zb)++d)++e) a):Int)))),f,l),k,())) N j (0:Int) e) N ((qq (IntKind.i64.wrap (a.tdiv (max (1:Int) ((b6 ((([]:Zb)++d)++e) a):Int))))):Bool) (0:Int) d))))) N (0:Int) ([]:Zb)) N (0:Int) ([]:Zb)) N
def Γ73:Gam:=[(63,g63),(98,g98)]
theorem GJ:Gam.get Γ73 63=some g63/\Gam.get Γ73 98=some g98:=⟨rfl,rfl⟩
def GK:List Bool:=[O,I,O,I,I,O,I,O,I]
def Sp:Nm:=⟨GK,[],false⟩
theorem qUg:NmS Sp GK [] false:=nmS
def xc:List Bool:=[O,I,O,I,I,O,I,O,I,O,I,I]
def GL:Nm:=⟨xc,[.box 10 0 3 Zd],false⟩
theorem Sq:NmS GL xc [.box 10 0 3 Zd] false:=nmS
def xd:List Bool:=[O,I,O,I,I,O,I,O,I,O,I,O,I]
def GM:Nm:=⟨xd,[.box 10 3 3 Zd],false⟩
theorem Sr:NmS GM xd [.box 10 3 3 Zd] false:=nmS
def xe:List Bool:=[O,O,O,O,O,O,O,O,I,O,I,O,O,I,I,I]
def GN:Nm:=⟨xe,[],false⟩
theorem Ss:NmS GN xe [] false:=nmS
def xf:List Bool:=[O,O,O,O,O,O,O,O,I,O,I,O,O,I,I,O,I]
def GO:Nm:=⟨xf,[],false⟩
theorem Su:NmS GO xf [] false:=nmS
def GP:List Bool:=[O,I,O,I,I,O,I,O,I,O,I]
def Sv:Nm:=⟨GP,[],false⟩
theorem qWn:NmS Sv GP [] false:=nmS
def GQ:List Bool:=[O,O,O,O,O,O,O,O,I,O,I]
def Sw:Nm:=⟨GQ,[],false⟩
theorem q2o:NmS Sw GQ [] false:=nmS
def GR:List Bool:=[O,O,O,O,O,O,O,O,I,O,I,O,O,I,I]
def Sx:Nm:=⟨GR,[],false⟩
theorem qRW:NmS Sx GR [] false:=nmS
def GS:List Bool:=[O,O,O,O,O,O,O,O,I,O,I,O,O,O,I]
def Sy:Nm:=⟨GS,[],false⟩
theorem qTF:NmS Sy GS [] false:=nmS
def GU:List Bool:=[O,I,O,I,I,O,I,O,I,O,I]
def Sz:Nm:=⟨GU,[],false⟩
theorem qXe:NmS Sz GU [] false:=nmS
def GV:List Bool:=[O,I,O,I,I,O,I,O,I,O,I,I]
def SA:Nm:=⟨GV,[],false⟩
theorem qXF:NmS SA GV [] false:=nmS
def GW:List Bool:=[O,I,O,I,I,O,I,O,I,O,I,O,I]
def SB:Nm:=⟨GW,[],false⟩
theorem qQ5:NmS SB GW [] false:=nmS
def jw:Nat->Tree:=fun i=>if i=5 then .quiet 2 (.quiet 3 (.quiet 4 (.quiet 5 (.quiet 6 (.quiet 7 (.quiet 8 (.quiet 9 (.quiet 10 (.quiet 11 (.quiet 12 (.quiet 13 (.quiet 14 (.quiet 15 (.quiet 16 (.alt 0 (.alt 1 (.alt 17 (.alt 18 (.quiet 19 (.alt 20 .done .stop)) .stop) .stop) (.alt 17 (.quiet 1 (.alt 18 (.quiet 19 (.alt 20 .done .stop)) .stop)) .stop)) (.alt 17 (.quiet 0 (.quiet 1 (.alt 18 (.quiet 19 (.alt 20 .done .stop)) .stop))) .stop))))))))))))))))else if i=9 then .quiet 2 (.quiet 3 (.quiet 4 (.quiet 5 (.quiet 6 (.quiet 7 (.quiet 8 (.quiet 9 (.quiet 10 (.quiet 11 (.quiet 12 (.quiet 13 (.quiet 14 (.quiet 15 (.quiet 16 (.alt 0 (.alt 1 (.alt 17 (.alt 18 (.quiet 19 (.alt 20 .done .stop)) .stop) .stop) (.alt 17 (.quiet 1 (.alt 18 (.quiet 19 (.alt 20 .done .stop)) .stop)) .stop)) (.alt 17 (.quiet 0 (.quiet 1 (.alt 18 (.quiet 19 (.alt 20 .done .stop)) .stop))) .stop))))))))))))))))else if i=10 then .keep 1 (.keep 2 (.keep 4 (.keep 5 (.keep 7 (.keep 8 (.alt 0 (.alt 3 (.alt 6 (.alt 9 (.alt 10 (.quiet 11 .done) .stop) .stop) .stop) .stop) .stop))))))else if i=16 then .quiet 0 (.quiet 1 (.quiet 2 (.quiet 3 (.quiet 4 (.quiet 5 (.quiet 6 (.quiet 7 (.quiet 8 (.quiet 9 (.quiet 10 (.alt 11 .done .stop)))))))))))else if i=21 then .quiet 0 (.quiet 1 (.quiet 2 (.quiet 3 (.quiet 4 (.quiet 5 (.quiet 6 (.quiet 7 (.quiet 8 (.quiet 9 (.quiet 10 (.alt 11 .done .stop)))))))))))else .done
def mU:Nat->Nm:=fun i=>if i=3 then GL else if i=7 then GM else if i=14 then GN else if i=19 then GO else ⟨[],[],false⟩
def et:Nat->Option Jn:=fun i=>if i=1 then some (.nm Sp)else none
def mV:Nat->Option Nm:=fun i=>if i=0 then some Sv else if i=2 then some Sw else if i=4 then some Sx else if i=6 then some Sy else none
def eN:Nat->Option Nm:=fun i=>if i=1 then some Sz else if i=5 then some SA else if i=9 then some SB else none
theorem p73:qi jw (Tryz.f73.body.getD .skip)=true:=by kernel_rfl
def T73 (N:Nat):Tab:={tr:=jw,lp:=mU,ex:=mV,rg:=eN,jn:=et,fuel:=N}
theorem qNX (N:Nat):qj Tryz.prog (T73 N):=fun id j t h a=>by
 have h:et id=_:=h
 unfold et at h
 repeat' split at h
 all_goals first | (simp at h;done) | (simp only [Option.some.injEq]at h;subst h;simp [Jn.tb]at a;done) | (simp only [Option.some.injEq]at h;subst h;simp only [Jn.tb,Option.some.injEq]at a;subst a;exact hTH)
theorem fP (N:Nat):qr (T73 N) jw mU mV eN et N false:=qt
def SC:Code:=cut [I,O] (Tryz.f73.body.getD .skip)
theorem qY3 (N:Nat) (h i:Int) (j:Zb) (k:Int) (l:Bool) (m a:Zb) (b:Int) (d:Bool) (e:Zb) (f:Int) (g:Bool) {n:Int->Bool->ZO [bE,i4]} {Q:ZQ [bE,i4]} {c:Code} (r:c=SC) (q: ∀(o:Int) (p:Bool),Q .normal ⟨[u,.one (.int .i64 h),u,.one (.int .i64 i),.one (.ptr 0 0 0),u,.one (.ptr 1 0 0),u,.one (.ptr 2 0 0),u,.one (.ptr 3 0 0),u,u,u,u,u,u,u,u,u,u,u,u,u,u,u,u,u,u,u,u,u,u,u,u,u,u,u,u,u,u,u,u,u,u,u,u,u,u,u,u,u,u,u,u,u,u,u,u,u,u,u,u,u,u,u,u,u,u,u,u,u,u,u,u,u,u,u,u,u,u,u,u,u,u,u,u,u,u,u,u,u,u,u,u,u,u,u,u,u,u,u,u,u,u,u,u,u,u,u,u,u,u,u,u,u,u,u,u,u,u,u,u,u,u,u,u,u,u,u,u,u,u,u,u,u,u,u,u,u,u,u,u,u,u,u,u,u,u,u,u,u,u,u,u,u,u,u,u,u,u,u],[.box [.sl 3 Zd j 4,.int .i64 k,.bool l,.sl 3 Zd m 4],.box [.sl 3 Zd a 4,.int .i64 b,.bool d,.sl 3 Zd e 4],.box [.nils,.int .i64 f,.bool g,.nils],.box [.nils,.int .i64 o,.bool p,.nils]]⟩=n o p):cd tt Γ73 (T73 N) c Q ⟨[u,.one (.int .i64 h),u,.one (.int .i64 i),.one (.ptr 0 0 0),u,.one (.ptr 1 0 0),u,.one (.ptr 2 0 0),u,u,u,u,u,u,u,u,u,u,u,u,u,u,u,u,u,u,u,u,u,u,u,u,u,u,u,u,u,u,u,u,u,u,u,u,u,u,u,u,u,u,u,u,u,u,u,u,u,u,u,u,u,u,u,u,u,u,u,u,u,u,u,u,u,u,u,u,u,u,u,u,u,u,u,u,u,u,u,u,u,u,u,u,u,u,u,u,u,u,u,u,u,u,u,u,u,u,u,u,u,u,u,u,u,u,u,u,u,u,u,u,u,u,u,u,u,u,u,u,u,u,u,u,u,u,u,u,u,u,u,u,u,u,u,u,u,u,u,u,u,u,u,u,u,u,u,u,u,u,u,u,u],[.box [.sl 3 Zd j 3,.int .i64 k,.bool l,.sl 3 Zd m 3],.box [.sl 3 Zd a 3,.int .i64 b,.bool d,.sl 3 Zd e 3],.box [.nils,.int .i64 f,.bool g,.nils]]⟩=pO N h i j k l m a b d e f g n N:=by
 rw [Kd r,pO];unfold SC Tryz.f73
 simp -implicitDefEqProofs [l7 (id:=1),fP,eN,qXe,GU,q]
def SD:Code:=cut [I,I,O,I,I,I] (Tryz.f73.body.getD .skip)
theorem qZu (N:Nat) (a b:Int) (e:Zb) (f:Int) (g:Bool) (h i:Zb) (j:Int) (k:Bool) (l:Zb) (m:Int) (o:Bool) (p:Int) (q:Bool) {k0:(Zb)->ZO [bE,i4]} {Q:ZQ [bE,i4]} {c:Code} (v:c=SD) (x: ∀st,Q .ret st=qz tt true [bE,i4] [.cell 8 100,.tmp 9] st) (t: ∀(s:Zb),Q (.exit 0) ⟨[u,.one (.int .i64 a),u,.one (.int .i64 b),.one (.ptr 0 0 0),u,.one (.ptr 1 0 0),u,.one (.ptr 2 0 0),u,.one (.ptr 3 0 0),u,u,u,u,u,u,u,u,u,u,u,u,u,u,u,u,u,u,u,u,u,u,u,u,u,u,u,u,u,u,u,u,u,u,u,u,u,u,u,u,u,u,u,u,u,u,u,u,u,u,u,u,u,u,u,u,u,u,u,u,u,u,u,u,u,u,u,u,u,u,u,u,u,u,u,u,u,u,u,u,u,u,u,u,u,u,u,u,u,u,u,u,u,u,u,u,u,u,u,u,u,u,u,u,u,u,u,u,u,u,u,u,u,u,u,u,u,u,u,u,u,u,u,u,u,u,u,u,u,u,u,u,u,u,u,u,u,u,u,u,u,u,u,u,u,u,u,u,u,u,u],[.box [.sl 3 Zd e 5,.int .i64 f,.bool g,.sl 3 Zd h 5],.box [.sl 3 Zd i 5,.int .i64 j,.bool k,.sl 3 Zd l 5],.box [.nils,.int .i64 m,.bool o,.nils],.box [.own 4,.int .i64 p,.bool q,.nils],.row 3 Zd s true true 0]⟩=k0 s): ∀(n:Nat) (d:Int) (r:Zb),qw (qd tt Γ73 (T73 N) c) false GL Q n ⟨[u,.one (.int .i64 a),u,.one (.int .i64 b),.one (.ptr 0 0 0),u,.one (.ptr 1 0 0),u,.one (.ptr 2 0 0),u,.one (.ptr 3 0 0),.one (.int .i64 d),u,u,u,u,u,u,u,u,u,u,u,u,u,u,u,u,u,u,u,u,u,u,u,u,u,u,u,u,u,u,u,u,u,u,u,u,u,u,u,u,u,u,u,u,u,u,u,u,u,u,u,u,u,u,u,u,u,u,u,u,u,u,u,u,u,u,u,u,u,u,u,u,u,u,u,u,u,u,u,u,u,u,u,u,u,u,u,u,u,u,u,u,u,u,u,u,u,u,u,u,u,u,u,u,u,u,u,u,u,u,u,u,u,u,u,u,u,u,u,u,u,u,u,u,u,u,u,u,u,u,u,u,u,u,u,u,u,u,u,u,u,u,u,u,u,u,u,u,u,u],[.box [.sl 3 Zd e 5,.int .i64 f,.bool g,.sl 3 Zd h 5],.box [.sl 3 Zd i 5,.int .i64 j,.bool k,.sl 3 Zd l 5],.box [.nils,.int .i64 m,.bool o,.nils],.box [.own 4,.int .i64 p,.bool q,.nils],.row 3 Zd r true true 0]⟩=ju N a b e f g h i j k l m o p q k0 n d r:=by
 intro n;induction n with
 | zero=>intros;rfl
 | succ n w=>
   intro d r
   rw [qD,qE v,ju];unfold SD Tryz.f73
   simp -implicitDefEqProofs [fP,jw,mV,eN,et,Sq,xc,qWn,GP,qXF,GV,t,w]
def SE:Code:=cut [I,I,I,O,I,I,I] (Tryz.f73.body.getD .skip)
theorem qNA (N:Nat) (i j:Int) (k:Zb) (l:Int) (m:Bool) (o p:Zb) (q:Int) (r:Bool) (s:Zb) (b:Int) (d:Bool) (e:Int) (f:Bool) (g:Zb) {k2:(Zb)->ZO [bE,i4]} {Q:ZQ [bE,i4]} {c:Code} (v:c=SE) (x: ∀st,Q .ret st=qz tt true [bE,i4] [.cell 8 100,.tmp 9] st) (h2: ∀(t:Zb),Q (.exit 2) ⟨[u,u,u,u,u,u,u,u,.one (.ptr 0 0 0),u,.one (.ptr 1 0 0),u,u,u,u,u,u,u,u,u,u,u,u,u,u,u,u,u,u,u,u,u,u,u,u,u,u,u,u,u,u,u,u,u,u,u,u,u,u,u,u,u,u,u,u,u,u,u,u,u,u,u,u,u,u,u,u,u,u,u,u,u,u,u,u,u,u,u,u,u,u,u,u,u,u,u,u,u,u,u,u,u,u,u,u,u,u,u,u,u,u,u,u,u,u,u,u,u,u,u,u,u,u,u,u,u,u,u,u,u,u,u,u,u,u,u,u,u,u,u,u,u,u,u,u,u,u,u,u,u,u,u,u,u,u,u,u,u,u,u,u,u,u,u,u,u,u,u,u,u,u,u],[.box [.nils,.int .i64 b,.bool d,.nils],.box [.own 2,.int .i64 e,.bool f,.own 3],.row 3 Zd g true true 0,.row 3 Zd t true true 0]⟩=k2 t): ∀(n:Nat) (a:Int) (h:Zb),qw (qd tt Γ73 (T73 N) c) false GM Q n ⟨[u,.one (.int .i64 i),u,.one (.int .i64 j),.one (.ptr 0 0 0),u,.one (.ptr 1 0 0),u,.one (.ptr 2 0 0),u,.one (.ptr 3 0 0),u,.one (.int .i64 a),u,u,u,u,u,u,u,u,u,u,u,u,u,u,u,u,u,u,u,u,u,u,u,u,u,u,u,u,u,u,u,u,u,u,u,u,u,u,u,u,u,u,u,u,u,u,u,u,u,u,u,u,u,u,u,u,u,u,u,u,u,u,u,u,u,u,u,u,u,u,u,u,u,u,u,u,u,u,u,u,u,u,u,u,u,u,u,u,u,u,u,u,u,u,u,u,u,u,u,u,u,u,u,u,u,u,u,u,u,u,u,u,u,u,u,u,u,u,u,u,u,u,u,u,u,u,u,u,u,u,u,u,u,u,u,u,u,u,u,u,u,u,u,u,u,u,u,u,u],[.box [.sl 3 Zd k 6,.int .i64 l,.bool m,.sl 3 Zd o 6],.box [.sl 3 Zd p 6,.int .i64 q,.bool r,.sl 3 Zd s 6],.box [.nils,.int .i64 b,.bool d,.nils],.box [.own 4,.int .i64 e,.bool f,.own 5],.row 3 Zd g true true 0,.row 3 Zd h true true 0]⟩=jv N i j k l m o p q r s b d e f g k2 n a h:=by
 intro n;induction n with
 | zero=>intros;rfl
 | succ n w=>
   intro a h
   rw [qD,qE v,jv];unfold SE Tryz.f73
   simp -implicitDefEqProofs [fP,jw,mV,eN,et,Sr,xd,q2o,GQ,qQ5,GW,h2,w]
def SF:Code:=cut [I,I,I,I,I,I,I,O,I,I,I] (Tryz.f73.body.getD .skip)
theorem qQY (N:Nat) (a e:Int) (f:Bool) (g:Int) (h:Bool) (j:Zb) {k4:Bool->(Zb)->ZO [bE,i4]} {Q:ZQ [bE,i4]} {c:Code} (o:c=SF) (q: ∀st,Q .ret st=qz tt true [bE,i4] [.cell 8 100,.tmp 9] st) (m: ∀(k:Bool) (l:Zb),Q (.exit 4) ⟨[u,u,u,u,u,u,u,u,.one (.ptr 0 0 0),u,.one (.ptr 1 0 0),u,u,.one (.int .i64 a),.one (.bool k),u,u,u,u,u,u,u,u,u,u,u,u,u,u,u,u,u,u,u,u,u,u,u,u,u,u,u,u,u,u,u,u,u,u,u,u,u,u,u,u,u,u,u,u,u,u,u,u,u,u,u,u,u,u,u,u,u,u,u,u,u,u,u,u,u,u,u,u,u,u,u,u,u,u,u,u,u,u,u,u,u,u,u,u,u,u,u,u,u,u,u,u,u,u,u,u,u,u,u,u,u,u,u,u,u,u,u,u,u,u,u,u,u,u,u,u,u,u,u,u,u,u,u,u,u,u,u,u,u,u,u,u,u,u,u,u,u,u,u,u,u,u,u,u,u,u,u],[.box [.nils,.int .i64 e,.bool f,.nils],.box [.own 2,.int .i64 g,.bool h,.own 3],.row 3 Zd l true true 0,.row 3 Zd j true true 0]⟩=k4 k l): ∀(n:Nat) (b:Bool) (d:Int) (i:Zb),qw (qd tt Γ73 (T73 N) c) false GN Q n ⟨[u,u,u,u,u,u,u,u,.one (.ptr 0 0 0),u,.one (.ptr 1 0 0),u,u,.one (.int .i64 a),.one (.bool b),.one (.int .i64 d),u,u,u,u,u,u,u,u,u,u,u,u,u,u,u,u,u,u,u,u,u,u,u,u,u,u,u,u,u,u,u,u,u,u,u,u,u,u,u,u,u,u,u,u,u,u,u,u,u,u,u,u,u,u,u,u,u,u,u,u,u,u,u,u,u,u,u,u,u,u,u,u,u,u,u,u,u,u,u,u,u,u,u,u,u,u,u,u,u,u,u,u,u,u,u,u,u,u,u,u,u,u,u,u,u,u,u,u,u,u,u,u,u,u,u,u,u,u,u,u,u,u,u,u,u,u,u,u,u,u,u,u,u,u,u,u,u,u,u,u,u,u,u,u,u,u],[.box [.nils,.int .i64 e,.bool f,.nils],.box [.own 2,.int .i64 g,.bool h,.own 3],.row 3 Zd i true true 0,.row 3 Zd j true true 0]⟩=hV N a e f g h j k4 n b d i:=by
 intro n;induction n with
 | zero=>intros;rfl
 | succ n p=>
   intro b d i
   rw [qD,qE o,hV];unfold SF Tryz.f73
   simp -implicitDefEqProofs [fP,jw,mV,eN,et,Ss,xe,qRW,GR,GJ,g63,m,p]
def SG:Code:=cut [I,I,I,I,I,I,I,I,O,I,I,I] (Tryz.f73.body.getD .skip)
theorem qRj (N:Nat) (j d:Int) (e:Bool) (f:Int) (g:Bool) (h:Zb) {k6:Bool->(Zb)->ZO [bE,i4]} {Q:ZQ [bE,i4]} {c:Code} (o:c=SG) (q: ∀st,Q .ret st=qz tt true [bE,i4] [.cell 8 100,.tmp 9] st) (m: ∀(k:Bool) (l:Zb),Q (.exit 6) ⟨[u,u,u,u,u,u,u,u,.one (.ptr 0 0 0),u,.one (.ptr 1 0 0),u,u,u,.one (.bool k),u,u,u,u,u,u,u,u,u,u,u,u,u,u,u,u,u,u,u,u,u,u,u,u,u,u,u,u,u,u,u,u,u,u,u,u,u,u,u,u,u,u,u,u,u,u,u,u,u,u,u,u,u,u,u,u,u,u,u,u,u,u,u,u,u,u,u,u,u,u,u,u,u,u,u,u,u,u,u,u,u,u,u,u,u,u,u,u,u,u,u,u,u,u,u,u,u,u,u,u,u,u,u,u,u,u,u,u,u,u,u,u,u,u,u,u,u,u,u,u,u,u,u,u,u,u,u,u,u,u,u,u,u,u,u,u,u,u,u,u,u,u,u,u,u,u,u],[.box [.nils,.int .i64 d,.bool e,.nils],.box [.own 2,.int .i64 f,.bool g,.own 3],.row 3 Zd h true true 0,.row 3 Zd l true true 0]⟩=k6 k l): ∀(n:Nat) (a:Bool) (b:Int) (i:Zb),qw (qd tt Γ73 (T73 N) c) false GO Q n ⟨[u,u,u,u,u,u,u,u,.one (.ptr 0 0 0),u,.one (.ptr 1 0 0),u,u,.one (.int .i64 j),.one (.bool a),u,.one (.int .i64 b),u,u,u,u,u,u,u,u,u,u,u,u,u,u,u,u,u,u,u,u,u,u,u,u,u,u,u,u,u,u,u,u,u,u,u,u,u,u,u,u,u,u,u,u,u,u,u,u,u,u,u,u,u,u,u,u,u,u,u,u,u,u,u,u,u,u,u,u,u,u,u,u,u,u,u,u,u,u,u,u,u,u,u,u,u,u,u,u,u,u,u,u,u,u,u,u,u,u,u,u,u,u,u,u,u,u,u,u,u,u,u,u,u,u,u,u,u,u,u,u,u,u,u,u,u,u,u,u,u,u,u,u,u,u,u,u,u,u,u,u,u,u,u,u,u],[.box [.nils,.int .i64 d,.bool e,.nils],.box [.own 2,.int .i64 f,.bool g,.own 3],.row 3 Zd h true true 0,.row 3 Zd i true true 0]⟩=gK N j d e f g h k6 n a b i:=by
 intro n;induction n with
 | zero=>intros;rfl
 | succ n p=>
   intro a b i
   rw [qD,qE o,gK];unfold SG Tryz.f73
   simp -implicitDefEqProofs [fP,jw,mV,eN,et,Su,xf,qTF,GS,GJ,g63,m,p]
theorem qWy (N:Nat) (e:Val qv) (f:Int) (h:Val qv) (i:Int):qd tt Γ73 (T73 N) (Tryz.f73.body.getD .skip) (qk tt true [bE,i4] [.cell 8 100,.tmp 9]) (qm [bE,i3,bE,i3] 162 (e,f,h,i,()))=m73 N e f h i:=by
 unfold Tryz.f73
 simp -implicitDefEqProofs [fP,eN,et,qUg,GK]
 rewrite [qY3 N _ _ _ _ _ _ _ _ _ _ _ _ ?_ ?_]
 ·rewrite [m73];first | rfl | simp -implicitDefEqProofs []
 ·rfl
 ·intro a g;simp -implicitDefEqProofs [fP,mU,eN,et,Sq,xc]
  rewrite [qZu N _ _ _ _ _ _ _ _ _ _ _ _ _ _ ?_ ?_ ?_]
  ·first | rfl | simp -implicitDefEqProofs []
  ·rfl
  ·intro;simp only [qA,qC,qJ]
  ·intro c;simp -implicitDefEqProofs [fP,mU,eN,et,Sr,xd]
   rewrite [qNA N _ _ _ _ _ _ _ _ _ _ _ _ _ _ _ ?_ ?_ ?_]
   ·first | rfl | simp -implicitDefEqProofs []
   ·rfl
   ·intro;simp only [qA,qC,qJ]
   ·intro b;simp -implicitDefEqProofs [fP,jw,mU,eN,et,Ss,xe,GJ,g63,g98]
    rewrite [qQY (k4:=(fun (j:Bool) (d:Zb)=>gK N (max (1:Int) ((b6 ((([]:Zb)++c)++b) a):Int)) (0:Int) false (IntKind.i64.wrap (a.tdiv (max (1:Int) ((b6 ((([]:Zb)++c)++b) a):Int)))) g d (fun (k:Bool) (l:Zb)=>some ((d,(IntKind.i64.wrap (a.tdiv (max (1:Int) ((b6 ((([]:Zb)++c)++b) a):Int)))),g,l),k,())) N j (0:Int) b)) N _ _ _ _ _ _ ?_ ?_ ?_]
    ·first | rfl | simp -implicitDefEqProofs []
    ·rfl
    ·intro;simp only [qA,qC,qJ]
    ·intro j d;simp -implicitDefEqProofs [fP,mU,eN,et,Su,xf]
     rewrite [qRj N _ _ _ _ _ _ ?_ ?_ ?_]
     ·first | rfl | simp -implicitDefEqProofs []
     ·rfl
     ·intro;simp only [qA,qC,qJ]
     ·intro k l;simp -implicitDefEqProofs [fP,eN,et]
def mW (c:Zj):Prop:=b8 c
def g35:G:={ps:=[i35],rs:=[i25,i4],dp:=false,pre:=fun x=>mW x.1,fn:=fun x=>((dA x.1).1,(dA x.1).2,())}
def hW (N:Nat) (d:Int) (a:Ze) (k0:(List (Val qv))->ZO [i25,i4]):Nat->Int->(List (Val qv))->ZO [i25,i4]
 | 0,_,_=>none
 | n+1,b,c=>bif (decide (b<(a.length:Int)))then (chk (b8 (d,a)) (bif ((qI (d,a)):Bool)then (chk (0<=(a.length:Int)/\(a.length:Int)<=(a.length:Int)/\(a.length:Int)<=1048576) (chk (0<=b/\b<((List.replicate (a.length:Int).toNat (qa Zd)).length:Int)) (chk (b.toNat<(List.replicate (a.length:Int).toNat (qa Zd)).length) (chk (0<=b/\b<(a.length:Int)) (chk (0<=b/\b<(a.length:Int)) (chk (0<=b/\b<(a.length:Int)) (chk (([]:Zb).length+((a.getD b.toNat (qa Y68)).1:Zb).length<=1048576) (chk (c.length+([((([]:Zb)++((a.getD b.toNat (qa Y68)).1:Zb)),(((a.getD b.toNat (qa Y68)).2).1:Int),(((a.getD b.toNat (qa Y68)).2).2:Bool),((List.replicate (a.length:Int).toNat (qa Zd)).set b.toNat (1:Int)))]:List (Val qv)).length<=1048576) (hW N d a k0 n (IntKind.i64.wrap (b+(1:Int))) (c++([((([]:Zb)++((a.getD b.toNat (qa Y68)).1:Zb)),(((a.getD b.toNat (qa Y68)).2).1:Int),(((a.getD b.toNat (qa Y68)).2).2:Bool),((List.replicate (a.length:Int).toNat (qa Zd)).set b.toNat (1:Int)))]:List (Val qv))))))))))))else (k0 c)))else (k0 c)
def hX (N:Nat) (c e:Int) (f:Ze) (b:List (Val qv)) (k4:(List (Val qv))->ZO [i25,i4]):Nat->Int->(List (Val qv))->ZO [i25,i4]
 | 0,_,_=>none
 | n+1,a,d=>bif (decide (a<(b.length:Int)))then (chk (0<=a/\a<(b.length:Int)) (chk (a.toNat<b.length) (chk (0<=c/\c<(((b.getD a.toNat (qa qv)).1:Zb).length:Int)) (bif (decide (((((b.getD a.toNat (qa qv)).1:Zb).getD c.toNat (qa Zd)):Int)=(0:Int)))then (chk (0<=a/\a<(b.length:Int)) (chk (a.toNat<b.length) (chk (d.length+([(b.getD a.toNat (qa qv))]:List (Val qv)).length<=1048576) (hX N c e f b k4 n (IntKind.i64.wrap (a+(1:Int))) (d++([(b.getD a.toNat (qa qv))]:List (Val qv)))))))else (hX N c e f b k4 n (IntKind.i64.wrap (a+(1:Int))) d)))))else (k4 d)
def hY (N:Nat) (d c f:Int) (g:Ze) (a:List (Val qv)) (k8:(List (Val qv))->ZO [i25,i4]):Nat->Int->(List (Val qv))->ZO [i25,i4]
 | 0,_,_=>none
 | n+1,b,e=>bif (decide (b<(a.length:Int)))then (chk (0<=c/\c<(a.length:Int)) (chk (c.toNat<a.length) (chk (0<=d/\d<(((a.getD c.toNat (qa qv)).1:Zb).length:Int)) (bif (decide (((((a.getD c.toNat (qa qv)).1:Zb).getD d.toNat (qa Zd)):Int)<=(0:Int)))then (hY N d c f g a k8 n (IntKind.i64.wrap (b+(1:Int))) e)else (chk (0<=b/\b<(a.length:Int)) (chk (b.toNat<a.length) (chk (0<=d/\d<(((a.getD b.toNat (qa qv)).1:Zb).length:Int)) (bif (decide ((0:Int)<=((((a.getD b.toNat (qa qv)).1:Zb).getD d.toNat (qa Zd)):Int)))then (hY N d c f g a k8 n (IntKind.i64.wrap (b+(1:Int))) e)else (chk (0<=c/\c<(a.length:Int)) (chk (c.toNat<a.length) (chk (0<=b/\b<(a.length:Int)) (chk (b.toNat<a.length) (chk (0<=d/\d<(((a.getD b.toNat (qa qv)).1:Zb).length:Int)) (chk (0<=b/\b<(a.length:Int)) (chk (b.toNat<a.length) (chk (0<=c/\c<(a.length:Int)) (chk (c.toNat<a.length) (chk (0<=d/\d<(((a.getD c.toNat (qa qv)).1:Zb).length:Int)) (chk (xb (a.getD c.toNat (qa qv)) (IntKind.i64.wrap (0 - ((((a.getD b.toNat (qa qv)).1:Zb).getD d.toNat (qa Zd)):Int))) (a.getD b.toNat (qa qv)) ((((a.getD c.toNat (qa qv)).1:Zb).getD d.toNat (qa Zd)):Int)) (bif (!((jn (a.getD c.toNat (qa qv)) (IntKind.i64.wrap (0 - ((((a.getD b.toNat (qa qv)).1:Zb).getD d.toNat (qa Zd)):Int))) (a.getD b.toNat (qa qv)) ((((a.getD c.toNat (qa qv)).1:Zb).getD d.toNat (qa Zd)):Int)).2:Bool))then (some (([]:Zb),false,()))else (bif (decide ((64:Int)<=(e.length:Int)))then (some (([]:Zb),false,()))else (chk (e.length+([(jn (a.getD c.toNat (qa qv)) (IntKind.i64.wrap (0 - ((((a.getD b.toNat (qa qv)).1:Zb).getD d.toNat (qa Zd)):Int))) (a.getD b.toNat (qa qv)) ((((a.getD c.toNat (qa qv)).1:Zb).getD d.toNat (qa Zd)):Int)).1]:List (Val qv)).length<=1048576) (hY N d c f g a k8 n (IntKind.i64.wrap (b+(1:Int))) (e++([(jn (a.getD c.toNat (qa qv)) (IntKind.i64.wrap (0 - ((((a.getD b.toNat (qa qv)).1:Zb).getD d.toNat (qa Zd)):Int))) (a.getD b.toNat (qa qv)) ((((a.getD c.toNat (qa qv)).1:Zb).getD d.toNat (qa Zd)):Int)).1]:List (Val qv))))))))))))))))))))))))))else (k8 e)
def hZ (N:Nat) (c d:Int) (e:Ze) (b:List (Val qv)) (k6:(List (Val qv))->ZO [i25,i4]):Nat->Int->(List (Val qv))->ZO [i25,i4]
 | 0,_,_=>none
 | n+1,a,f=>bif (decide (a<(b.length:Int)))then (hY N c a d e b (fun (g:List (Val qv))=>hZ N c d e b k6 n (IntKind.i64.wrap (a+(1:Int))) g) N (0:Int) f)else (k6 f)
def gM (N:Nat) (a:Int) (b:Ze) (k2:(List (Val qv))->ZO [i25,i4]):Nat->Int->(List (Val qv))->ZO [i25,i4]
 | 0,_,_=>none
 | n+1,d,c=>bif (decide ((0:Int)<=d))then (chk (b8 (a,b)) (bif ((qI (a,b)):Bool)then (hX N d a b c (fun (e:List (Val qv))=>hZ N d a b c (fun (f:List (Val qv))=>gM N a b k2 n (IntKind.i64.wrap (d - (1:Int))) f) N (0:Int) e) N (0:Int) ([]:List (Val qv)))else (k2 c)))else (k2 c)
def gN (N:Nat) (d:Int) (e:Ze) (b:List (Val qv)) (c:Unit->ZO [i25,i4]):Nat->Int->ZO [i25,i4]
 | 0,_=>none
 | n+1,a=>bif (decide (a<(b.length:Int)))then (chk (b8 (d,e)) (bif ((qI (d,e)):Bool)then (chk (0<=a/\a<(b.length:Int)) (chk (a.toNat<b.length) (bif (decide ((0:Int)<(((b.getD a.toNat (qa qv)).2).1:Int)))then (chk (0<=a/\a<(b.length:Int)) (chk (a.toNat<b.length) (some (((((b.getD a.toNat (qa qv)).2).2).2:Zb),true,()))))else (chk (0<=a/\a<(b.length:Int)) (chk (a.toNat<b.length) (bif (decide ((((b.getD a.toNat (qa qv)).2).1:Int)=(0:Int)))then (chk (0<=a/\a<(b.length:Int)) (chk (a.toNat<b.length) (bif ((((b.getD a.toNat (qa qv)).2).2).1:Bool)then (chk (0<=a/\a<(b.length:Int)) (chk (a.toNat<b.length) (some (((((b.getD a.toNat (qa qv)).2).2).2:Zb),true,()))))else (gN N d e b c n (IntKind.i64.wrap (a+(1:Int)))))))else (gN N d e b c n (IntKind.i64.wrap (a+(1:Int))))))))))else (c ())))else (c ())
def m35 (N:Nat) (a:Zj):ZO [i25,i4]:=hW N (a.1:Int) (a.2:Ze) (fun (b:List (Val qv))=>gM N (a.1:Int) (a.2:Ze) (fun (c:List (Val qv))=>gN N (a.1:Int) (a.2:Ze) c (fun (_:Unit)=>some (([]:Zb),false,())) N (0:Int)) N (IntKind.i64.wrap ((a.1:Int) - (1:Int))) b) N (0:Int) ([]:List (Val qv))
def Γ35:Gam:=[(31,g31),(73,g73)]
theorem xg:Gam.get Γ35 31=some g31/\Gam.get Γ35 73=some g73:=⟨rfl,rfl⟩
def xh:List Bool:=[O,I,O,O,I,I]
def GX:Nm:=⟨xh,[],false⟩
theorem SH:NmS GX xh [] false:=nmS
def xi:List Bool:=[O,I,O,O,I,O,O,I,I,I]
def GY:Nm:=⟨xi,[.und 8 0 100 qv],false⟩
theorem SI:NmS GY xi [.und 8 0 100 qv] false:=nmS
def xj:List Bool:=[O,I,O,O,I,O,O,I,I,O,I,I]
def GZ:Nm:=⟨xj,[],false⟩
theorem SJ:NmS GZ xj [] false:=nmS
def xk:List Bool:=[O,I,O,O,I,O,O,I,I,O,I]
def G0:Nm:=⟨xk,[],false⟩
theorem SK:NmS G0 xk [] false:=nmS
def pP:List Bool:=[O,I,O,O,I,O,O,I]
def G1:Nm:=⟨pP,[.und 4 0 100 qv],false⟩
theorem G2:NmS G1 pP [.und 4 0 100 qv] false:=nmS
def xl:List Bool:=[O,I,O,O,I,O,O,O,O,O,O,O,O,O,I]
def G3:Nm:=⟨xl,[],false⟩
theorem SL:NmS G3 xl [] false:=nmS
def G4:List Bool:=[O,I,O,O,I]
def SM:Nm:=⟨G4,[],false⟩
theorem qPc:NmS SM G4 [] false:=nmS
def G5:List Bool:=[O,I,O,O,I]
def SN:Nm:=⟨G5,[],false⟩
theorem qNj:NmS SN G5 [] false:=nmS
def G6:List Bool:=[O,I,O,O,I,O,O,I,I]
def SO:Nm:=⟨G6,[],false⟩
theorem qP7:NmS SO G6 [] false:=nmS
def G7:List Bool:=[O,I,O,O,O,O,O,I,I]
def SP:Nm:=⟨G7,[],false⟩
theorem q0j:NmS SP G7 [] false:=nmS
def G8:List Bool:=[O,I,O,O,I,O,O,I,I,O,I]
def SQ:Nm:=⟨G8,[],false⟩
theorem qNi:NmS SQ G8 [] false:=nmS
def G9:List Bool:=[]
def SR:Nm:=⟨G9,[],false⟩
theorem qVv:NmS SR G9 [] false:=nmS
def Ha:List Bool:=[O,I,O,O,I,O,O,I,I,O,I,I,I,I]
def SS:Nm:=⟨Ha,[],false⟩
theorem q0s:NmS SS Ha [] false:=nmS
def pQ:Nat->Tree:=fun i=>if i=7 then .first 0 (.first 4 (.first 11 (.first 17 (.first 21 (.keep 2 (.keep 3 (.first 5 (.first 6 (.first 7 (.keep 9 (.keep 10 (.first 12 (.first 13 (.first 14 (.keep 15 (.keep 16 (.first 18 (.first 19 (.first 20 (.alt 1 (.alt 8 (.quiet 22 (.alt 23 (.alt 24 (.quiet 25 .done) .stop) .stop)) .stop) .stop))))))))))))))))))))else if i=24 then .first 0 (.first 1 (.first 4 (.first 5 (.first 9 (.first 13 (.first 14 (.first 17 (.first 18 (.first 22 (.grow 2 (.grow 3 (.grow 6 (.grow 7 (.grow 8 (.grow 10 (.grow 11 (.first 12 (.grow 15 (.grow 16 (.grow 19 (.grow 20 (.grow 21 (.grow 23 (.grow 24 (.alt 25 (.first 26 (.first 27 (.first 28 (.alt 29 (.alt 30 (.quiet 31 .done) .stop) .stop)))) (.alt 29 (.alt 25 (.quiet 26 (.quiet 27 (.first 28 (.alt 30 (.quiet 31 .done) .stop)))) .stop) .stop))))))))))))))))))))))))))else .done
def jx:Nat->Nm:=fun i=>if i=3 then GX else if i=13 then GY else if i=21 then GZ else if i=18 then G0 else if i=9 then G1 else if i=30 then G3 else ⟨[],[],false⟩
def jy:Nat->Option Nm:=fun i=>if i=0 then some SM else if i=2 then some SN else if i=4 then some SO else if i=6 then some SP else if i=8 then some SQ else if i=10 then some SR else none
def dW:Nat->Option Nm:=fun i=>if i=24 then some SS else none
theorem p35:qi pQ (Tryz.f35.body.getD .skip)=true:=by kernel_rfl
def T35 (N:Nat):Tab:={tr:=pQ,lp:=jx,ex:=jy,rg:=dW,jn:=jn0,fuel:=N}
theorem q1V (N:Nat):qj Tryz.prog (T35 N):=qn fun _=>rfl
theorem eO (N:Nat):qr (T35 N) pQ jx jy dW jn0 N false:=qt
def SU:Code:=cut [I,I,O,I,I,I] (Tryz.f35.body.getD .skip)
theorem qZn (N:Nat) (b:Int) (d:Ze) {k0:(List (Val qv))->ZO [i25,i4]} {Q:ZQ [i25,i4]} {c:Code} (h:c=SU) (j: ∀st,Q .ret st=qz tt false [i25,i4] [.tmp 2,.tmp 3] st) (g: ∀(f:List (Val qv)),Q (.exit 0) ⟨[u,.one (.ptr 0 0 0),u,u,.one (.own 1),u,u,u,u,u,u,u,u,u,u,u,u,u,u,u,u,u,u,u,u,u,u,u,u,u,u,u,u,u,u,u,u,u,u,u,u,u,u,u,u,u,u,u,u,u,u,u,u,u,u,u,u,u,u,u,u,u,u,u,u,u,u,u,u,u,u,u,u,u,u,u,u,u,u,u,u,u,u,u,u,u,u,u,u,u,u,u,u,u,u,u,u,u,u,u,u,u,u,u,u,u,u,u,u,u,u,u,u,u,u,u,u,u,u,u,u,u,u,u,u,u,u,u,u,u,u,u,u,u,u,u,u,u,u,u,u,u,u,u,u,u,u,u,u,u,u,u,u,u,u,u,u,u,u,u,u,u,u,u,u,u,u,u,u,u,u,u,u,u,u,u,u,u,u,u,u,u,u,u,u,u,u,u,u,u,u,u,u,u,u,u,u,u,u,u,u,u,u,u],[.box [.int .i64 b,.sl 68 Y68 d 2],.row 100 qv f true true 0]⟩=k0 f): ∀(n:Nat) (a:Int) (e:List (Val qv)),qw (qd tt Γ35 (T35 N) c) false GX Q n ⟨[u,.one (.ptr 0 0 0),u,u,.one (.own 1),.one (.int .i64 a),u,u,u,u,u,u,u,u,u,u,u,u,u,u,u,u,u,u,u,u,u,u,u,u,u,u,u,u,u,u,u,u,u,u,u,u,u,u,u,u,u,u,u,u,u,u,u,u,u,u,u,u,u,u,u,u,u,u,u,u,u,u,u,u,u,u,u,u,u,u,u,u,u,u,u,u,u,u,u,u,u,u,u,u,u,u,u,u,u,u,u,u,u,u,u,u,u,u,u,u,u,u,u,u,u,u,u,u,u,u,u,u,u,u,u,u,u,u,u,u,u,u,u,u,u,u,u,u,u,u,u,u,u,u,u,u,u,u,u,u,u,u,u,u,u,u,u,u,u,u,u,u,u,u,u,u,u,u,u,u,u,u,u,u,u,u,u,u,u,u,u,u,u,u,u,u,u,u,u,u,u,u,u,u,u,u,u,u,u,u,u,u,u,u,u,u,u,u],[.box [.int .i64 b,.sl 68 Y68 d 2],.row 100 qv e true true 0]⟩=hW N b d k0 n a e:=by
 intro n;induction n with
 | zero=>intros;rfl
 | succ n i=>
   intro a e
   rw [qD,qE h,hW];unfold SU Tryz.f35
   simp (maxSteps:=10000000) -implicitDefEqProofs [eO,pQ,jy,dW,SH,xh,qPc,G4,xg,g31,g,i]
def SV:Code:=cut [I,I,I,O,I,I,I,I,O,I,I,O,I,I,I] (Tryz.f35.body.getD .skip)
theorem qO1 (N:Nat) (a d:Int) (e:Ze) (f:List (Val qv)) {k4:(List (Val qv))->ZO [i25,i4]} {Q:ZQ [i25,i4]} {c:Code} (j:c=SV) (l: ∀st,Q .ret st=qz tt false [i25,i4] [.tmp 2,.tmp 3] st) (i: ∀(h:List (Val qv)),Q (.exit 4) ⟨[u,.one (.ptr 0 0 0),u,u,.one (.own 1),u,u,.one (.int .i64 a),.one (.own 2),u,u,u,u,u,u,u,u,u,u,u,u,u,u,u,u,u,u,u,u,u,u,u,u,u,u,u,u,u,u,u,u,u,u,u,u,u,u,u,u,u,u,u,u,u,u,u,u,u,u,u,u,u,u,u,u,u,u,u,u,u,u,u,u,u,u,u,u,u,u,u,u,u,u,u,u,u,u,u,u,u,u,u,u,u,u,u,u,u,u,u,u,u,u,u,u,u,u,u,u,u,u,u,u,u,u,u,u,u,u,u,u,u,u,u,u,u,u,u,u,u,u,u,u,u,u,u,u,u,u,u,u,u,u,u,u,u,u,u,u,u,u,u,u,u,u,u,u,u,u,u,u,u,u,u,u,u,u,u,u,u,u,u,u,u,u,u,u,u,u,u,u,u,u,u,u,u,u,u,u,u,u,u,u,u,u,u,u,u,u,u,u,u,u,u],[.box [.int .i64 d,.sl 68 Y68 e 3],.row 100 qv f false true 3,.row 100 qv h false true 3]⟩=k4 h): ∀(n:Nat) (b:Int) (g:List (Val qv)),qw (qd tt Γ35 (T35 N) c) false GY Q n ⟨[u,.one (.ptr 0 0 0),u,u,.one (.own 1),u,u,.one (.int .i64 a),.one (.own 2),.one (.int .i64 b),u,u,u,u,u,u,u,u,u,u,u,u,u,u,u,u,u,u,u,u,u,u,u,u,u,u,u,u,u,u,u,u,u,u,u,u,u,u,u,u,u,u,u,u,u,u,u,u,u,u,u,u,u,u,u,u,u,u,u,u,u,u,u,u,u,u,u,u,u,u,u,u,u,u,u,u,u,u,u,u,u,u,u,u,u,u,u,u,u,u,u,u,u,u,u,u,u,u,u,u,u,u,u,u,u,u,u,u,u,u,u,u,u,u,u,u,u,u,u,u,u,u,u,u,u,u,u,u,u,u,u,u,u,u,u,u,u,u,u,u,u,u,u,u,u,u,u,u,u,u,u,u,u,u,u,u,u,u,u,u,u,u,u,u,u,u,u,u,u,u,u,u,u,u,u,u,u,u,u,u,u,u,u,u,u,u,u,u,u,u,u,u,u,u],[.box [.int .i64 d,.sl 68 Y68 e 3],.row 100 qv f false true 3,.row 100 qv g false true 3]⟩=hX N a d e f k4 n b g:=by
 intro n;induction n with
 | zero=>intros;rfl
 | succ n k=>
   intro b g
   rw [qD,qE j,hX];unfold SV Tryz.f35
   simp (maxSteps:=10000000) -implicitDefEqProofs [eO,jy,dW,SI,xi,qP7,G6,i,k]
def SY:Code:=cut [I,I,I,O,I,I,I,I,O,I,I,I,O,I,I,I,I,O,I,I,I,I] (Tryz.f35.body.getD .skip)
theorem qQx (N:Nat) (a b e:Int) (f:Ze) (g:List (Val qv)) {k8:(List (Val qv))->ZO [i25,i4]} {Q:ZQ [i25,i4]} {c:Code} (k:c=SY) (l: ∀st,Q .ret st=qz tt false [i25,i4] [.tmp 2,.tmp 3] st) (j: ∀(i:List (Val qv)),Q (.exit 8) ⟨[u,.one (.ptr 0 0 0),u,u,.one (.own 1),u,u,.one (.int .i64 a),.one (.own 2),u,.one (.int .i64 b),u,u,u,u,u,u,u,u,u,u,u,u,u,u,u,u,u,u,u,u,u,u,u,u,u,u,u,u,u,u,u,u,u,u,u,u,u,u,u,u,u,u,u,u,u,u,u,u,u,u,u,u,u,u,u,u,u,u,u,u,u,u,u,u,u,u,u,u,u,u,u,u,u,u,u,u,u,u,u,u,u,u,u,u,u,u,u,u,u,u,u,u,u,u,u,u,u,u,u,u,u,u,u,u,u,u,u,u,u,u,u,u,u,u,u,u,u,u,u,u,u,u,u,u,u,u,u,u,u,u,u,u,u,u,u,u,u,u,u,u,u,u,u,u,u,u,u,u,u,u,u,u,u,u,u,u,u,u,u,u,u,u,u,u,u,u,u,u,u,u,u,u,u,u,u,u,u,u,u,u,u,u,u,u,u,u,u,u,u,u,u,u,u],[.box [.int .i64 e,.sl 68 Y68 f 3],.row 100 qv g false true 3,.row 100 qv i false true 3]⟩=k8 i): ∀(n:Nat) (d:Int) (h:List (Val qv)),qw (qd tt Γ35 (T35 N) c) false GZ Q n ⟨[u,.one (.ptr 0 0 0),u,u,.one (.own 1),u,u,.one (.int .i64 a),.one (.own 2),u,.one (.int .i64 b),.one (.int .i64 d),u,u,u,u,u,u,u,u,u,u,u,u,u,u,u,u,u,u,u,u,u,u,u,u,u,u,u,u,u,u,u,u,u,u,u,u,u,u,u,u,u,u,u,u,u,u,u,u,u,u,u,u,u,u,u,u,u,u,u,u,u,u,u,u,u,u,u,u,u,u,u,u,u,u,u,u,u,u,u,u,u,u,u,u,u,u,u,u,u,u,u,u,u,u,u,u,u,u,u,u,u,u,u,u,u,u,u,u,u,u,u,u,u,u,u,u,u,u,u,u,u,u,u,u,u,u,u,u,u,u,u,u,u,u,u,u,u,u,u,u,u,u,u,u,u,u,u,u,u,u,u,u,u,u,u,u,u,u,u,u,u,u,u,u,u,u,u,u,u,u,u,u,u,u,u,u,u,u,u,u,u,u,u,u,u,u,u,u,u,u,u,u],[.box [.int .i64 e,.sl 68 Y68 f 3],.row 100 qv g false true 3,.row 100 qv h false true 3]⟩=hY N a b e f g k8 n d h:=by
 intro n;induction n with
 | zero=>intros;rfl
 | succ n m=>
   intro d h
   rw [qD,qE k,hY];unfold SY Tryz.f35
   simp (maxSteps:=10000000) -implicitDefEqProofs [eO,pQ,jy,dW,SJ,xj,qNi,G8,q0s,Ha,xg,g73,l,j,m]
def SZ:Code:=cut [I,I,I,O,I,I,I,I,O,I,I,I,O,I,I,I] (Tryz.f35.body.getD .skip)
theorem qSM (N:Nat) (a d:Int) (e:Ze) (f:List (Val qv)) {k6:(List (Val qv))->ZO [i25,i4]} {Q:ZQ [i25,i4]} {c:Code} (l:c=SZ) (m: ∀st,Q .ret st=qz tt false [i25,i4] [.tmp 2,.tmp 3] st) (k: ∀(j:List (Val qv)),Q (.exit 6) ⟨[u,.one (.ptr 0 0 0),u,u,u,u,u,.one (.int .i64 a),.one (.own 1),u,u,u,u,u,u,u,u,u,u,u,u,u,u,u,u,u,u,u,u,u,u,u,u,u,u,u,u,u,u,u,u,u,u,u,u,u,u,u,u,u,u,u,u,u,u,u,u,u,u,u,u,u,u,u,u,u,u,u,u,u,u,u,u,u,u,u,u,u,u,u,u,u,u,u,u,u,u,u,u,u,u,u,u,u,u,u,u,u,u,u,u,u,u,u,u,u,u,u,u,u,u,u,u,u,u,u,u,u,u,u,u,u,u,u,u,u,u,u,u,u,u,u,u,u,u,u,u,u,u,u,u,u,u,u,u,u,u,u,u,u,u,u,u,u,u,u,u,u,u,u,u,u,u,u,u,u,u,u,u,u,u,u,u,u,u,u,u,u,u,u,u,u,u,u,u,u,u,u,u,u,u,u,u,u,u,u,u,u,u,u,u,u,u,u],[.box [.int .i64 d,.sl 68 Y68 e 2],.row 100 qv j false true 2]⟩=k6 j): ∀(n:Nat) (b:Int) (g:List (Val qv)),qw (qd tt Γ35 (T35 N) c) false G0 Q n ⟨[u,.one (.ptr 0 0 0),u,u,.one (.own 1),u,u,.one (.int .i64 a),.one (.own 2),u,.one (.int .i64 b),u,u,u,u,u,u,u,u,u,u,u,u,u,u,u,u,u,u,u,u,u,u,u,u,u,u,u,u,u,u,u,u,u,u,u,u,u,u,u,u,u,u,u,u,u,u,u,u,u,u,u,u,u,u,u,u,u,u,u,u,u,u,u,u,u,u,u,u,u,u,u,u,u,u,u,u,u,u,u,u,u,u,u,u,u,u,u,u,u,u,u,u,u,u,u,u,u,u,u,u,u,u,u,u,u,u,u,u,u,u,u,u,u,u,u,u,u,u,u,u,u,u,u,u,u,u,u,u,u,u,u,u,u,u,u,u,u,u,u,u,u,u,u,u,u,u,u,u,u,u,u,u,u,u,u,u,u,u,u,u,u,u,u,u,u,u,u,u,u,u,u,u,u,u,u,u,u,u,u,u,u,u,u,u,u,u,u,u,u,u,u,u,u],[.box [.int .i64 d,.sl 68 Y68 e 3],.row 100 qv f false true 3,.row 100 qv g false true 3]⟩=hZ N a d e f k6 n b g:=by
 intro n;induction n with
 | zero=>intros;rfl
 | succ n h=>
   intro b g
   rw [qD,qE l];unfold SZ Tryz.f35
   simp (maxSteps:=10000000) -implicitDefEqProofs [eO,jx,jy,dW,SJ,xj,q0j,G7,k]
   rewrite [qQx (k8:=(fun (i:List (Val qv))=>hZ N a d e f k6 n (IntKind.i64.wrap (b+(1:Int))) i)) N _ _ _ _ _ ?_ ?_ ?_]
   ·rewrite [hZ];first | rfl | simp -implicitDefEqProofs [h]
   ·rfl
   ·intro;simp only [qA,qC,m]
   ·intro i;simp (maxSteps:=10000000) -implicitDefEqProofs [eO,dW,SK,xk,h]
def S0:Code:=cut [I,I,I,O,I,I,I] (Tryz.f35.body.getD .skip)
theorem q2H (N:Nat) (b:Int) (d:Ze) {k2:(List (Val qv))->ZO [i25,i4]} {Q:ZQ [i25,i4]} {c:Code} (k:c=S0) (g: ∀st,Q .ret st=qz tt false [i25,i4] [.tmp 2,.tmp 3] st) (h2: ∀(j:List (Val qv)),Q (.exit 2) ⟨[u,.one (.ptr 0 0 0),u,u,.one (.own 1),u,u,u,u,u,u,u,u,u,u,u,u,u,u,u,u,u,u,u,u,u,u,u,u,u,u,u,u,u,u,u,u,u,u,u,u,u,u,u,u,u,u,u,u,u,u,u,u,u,u,u,u,u,u,u,u,u,u,u,u,u,u,u,u,u,u,u,u,u,u,u,u,u,u,u,u,u,u,u,u,u,u,u,u,u,u,u,u,u,u,u,u,u,u,u,u,u,u,u,u,u,u,u,u,u,u,u,u,u,u,u,u,u,u,u,u,u,u,u,u,u,u,u,u,u,u,u,u,u,u,u,u,u,u,u,u,u,u,u,u,u,u,u,u,u,u,u,u,u,u,u,u,u,u,u,u,u,u,u,u,u,u,u,u,u,u,u,u,u,u,u,u,u,u,u,u,u,u,u,u,u,u,u,u,u,u,u,u,u,u,u,u,u,u,u,u,u,u,u],[.box [.int .i64 b,.sl 68 Y68 d 2],.row 100 qv j false true 2]⟩=k2 j): ∀(n:Nat) (a:Int) (f:List (Val qv)),qw (qd tt Γ35 (T35 N) c) false G1 Q n ⟨[u,.one (.ptr 0 0 0),u,u,.one (.own 1),u,u,.one (.int .i64 a),u,u,u,u,u,u,u,u,u,u,u,u,u,u,u,u,u,u,u,u,u,u,u,u,u,u,u,u,u,u,u,u,u,u,u,u,u,u,u,u,u,u,u,u,u,u,u,u,u,u,u,u,u,u,u,u,u,u,u,u,u,u,u,u,u,u,u,u,u,u,u,u,u,u,u,u,u,u,u,u,u,u,u,u,u,u,u,u,u,u,u,u,u,u,u,u,u,u,u,u,u,u,u,u,u,u,u,u,u,u,u,u,u,u,u,u,u,u,u,u,u,u,u,u,u,u,u,u,u,u,u,u,u,u,u,u,u,u,u,u,u,u,u,u,u,u,u,u,u,u,u,u,u,u,u,u,u,u,u,u,u,u,u,u,u,u,u,u,u,u,u,u,u,u,u,u,u,u,u,u,u,u,u,u,u,u,u,u,u,u,u,u,u,u,u,u],[.box [.int .i64 b,.sl 68 Y68 d 2],.row 100 qv f false true 2]⟩=gM N b d k2 n a f:=by
 intro n;induction n with
 | zero=>intros;rfl
 | succ n e=>
   intro a f
   rw [qD,qE k];unfold S0 Tryz.f35
   simp (maxSteps:=10000000) -implicitDefEqProofs [eO,jx,jy,dW,SI,xi,qNj,G5,xg,g31,h2]
   rewrite [qO1 (k4:=(fun (h:List (Val qv))=>hZ N a b d f (fun (i:List (Val qv))=>gM N b d k2 n (IntKind.i64.wrap (a - (1:Int))) i) N (0:Int) h)) N _ _ _ _ ?_ ?_ ?_]
   ·rewrite [gM];first | rfl | simp -implicitDefEqProofs [e]
   ·rfl
   ·intro;simp only [qA,qC,g]
   ·intro h;simp (maxSteps:=10000000) -implicitDefEqProofs [eO,jx,dW,SK,xk,G2,pP,e]
    rewrite [qSM N _ _ _ _ ?_ ?_ ?_]
    ·first | rfl | simp -implicitDefEqProofs [e]
    ·rfl
    ·intro;simp only [qA,qC,g]
    ·intro i;simp (maxSteps:=10000000) -implicitDefEqProofs [eO,dW,G2,pP,e]
def S1:Code:=cut [I,I,I,I,O,I,I,I] (Tryz.f35.body.getD .skip)
theorem q2D (N:Nat) (d:Int) (e:Ze) (f:List (Val qv)) {b:Unit->ZO [i25,i4]} {Q:ZQ [i25,i4]} {c:Code} (h:c=S1) (i: ∀st,Q .ret st=qz tt false [i25,i4] [.tmp 2,.tmp 3] st) (g:Q (.exit 10) ⟨[u,u,u,u,u,u,u,u,u,u,u,u,u,u,u,u,u,u,u,u,u,u,u,u,u,u,u,u,u,u,u,u,u,u,u,u,u,u,u,u,u,u,u,u,u,u,u,u,u,u,u,u,u,u,u,u,u,u,u,u,u,u,u,u,u,u,u,u,u,u,u,u,u,u,u,u,u,u,u,u,u,u,u,u,u,u,u,u,u,u,u,u,u,u,u,u,u,u,u,u,u,u,u,u,u,u,u,u,u,u,u,u,u,u,u,u,u,u,u,u,u,u,u,u,u,u,u,u,u,u,u,u,u,u,u,u,u,u,u,u,u,u,u,u,u,u,u,u,u,u,u,u,u,u,u,u,u,u,u,u,u,u,u,u,u,u,u,u,u,u,u,u,u,u,u,u,u,u,u,u,u,u,u,u,u,u,u,u,u,u,u,u,u,u,u,u,u,u,u,u,u,u,u,u],[]⟩=b ()): ∀(n:Nat) (a:Int),qw (qd tt Γ35 (T35 N) c) false G3 Q n ⟨[u,.one (.ptr 0 0 0),u,u,.one (.own 1),u,u,u,u,u,u,u,u,u,.one (.int .i64 a),u,u,u,u,u,u,u,u,u,u,u,u,u,u,u,u,u,u,u,u,u,u,u,u,u,u,u,u,u,u,u,u,u,u,u,u,u,u,u,u,u,u,u,u,u,u,u,u,u,u,u,u,u,u,u,u,u,u,u,u,u,u,u,u,u,u,u,u,u,u,u,u,u,u,u,u,u,u,u,u,u,u,u,u,u,u,u,u,u,u,u,u,u,u,u,u,u,u,u,u,u,u,u,u,u,u,u,u,u,u,u,u,u,u,u,u,u,u,u,u,u,u,u,u,u,u,u,u,u,u,u,u,u,u,u,u,u,u,u,u,u,u,u,u,u,u,u,u,u,u,u,u,u,u,u,u,u,u,u,u,u,u,u,u,u,u,u,u,u,u,u,u,u,u,u,u,u,u,u,u,u,u,u,u,u,u,u,u,u],[.box [.int .i64 d,.sl 68 Y68 e 2],.row 100 qv f false true 2]⟩=gN N d e f b n a:=by
 intro n;induction n with
 | zero=>intros;rfl
 | succ n j=>
   intro a
   rw [qD,qE h,gN];unfold S1 Tryz.f35
   simp (maxSteps:=10000000) -implicitDefEqProofs [eO,jy,dW,SL,xl,qVv,G9,xg,g31,i,g,j]
theorem qQo (N:Nat) (a:Zj):qd tt Γ35 (T35 N) (Tryz.f35.body.getD .skip) (qk tt false [i25,i4] [.tmp 2,.tmp 3]) (qm [i35] 204 (a,()))=m35 N a:=by
 unfold Tryz.f35
 simp (maxSteps:=10000000) -implicitDefEqProofs [eO,jx,dW,SH,xh]
 rewrite [qZn N _ _ ?_ ?_ ?_]
 ·rewrite [m35];first | rfl | simp -implicitDefEqProofs []
 ·rfl
 ·intro;simp only [qA,qC,qJ]
 ·intro b;simp (maxSteps:=10000000) -implicitDefEqProofs [eO,jx,dW,G2,pP]
  rewrite [q2H N _ _ ?_ ?_ ?_]
  ·first | rfl | simp -implicitDefEqProofs []
  ·rfl
  ·intro;simp only [qA,qC,qJ]
  ·intro c;simp (maxSteps:=10000000) -implicitDefEqProofs [eO,jx,dW,SL,xl]
   rewrite [q2D N _ _ _ ?_ ?_ ?_]
   ·first | rfl | simp -implicitDefEqProofs []
   ·rfl
   ·intro;simp only [qA,qC,qJ]
   ·simp (maxSteps:=10000000) -implicitDefEqProofs [eO,dW]
end
end Go.T
