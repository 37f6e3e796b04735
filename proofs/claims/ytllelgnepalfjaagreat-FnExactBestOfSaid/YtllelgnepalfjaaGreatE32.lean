import Derived.Test.YtllelgnepalfjaaGreatB18
import Derived.Test.YtllelgnepalfjaaGreatE20
set_option linter.unusedSimpArgs false
set_option linter.unusedVariables false
namespace Go.T
noncomputable section
open Go Go.Proofs
set_option maxHeartbeats 4000000
set_option maxRecDepth 100000
def dr (c:Zj) (l:Zb):Bool:=decide ((l.length:Int)=(c.1:Int))&&l.all fun n=>qq n
def mJ (_:Zj) (l:Zb):Prop:=l.length<=1048576
def hK (l:Zb) (d:Int):Bool:=l.all (fun n=>qq n)&&(decide ((l.length:Int)=d)&&inR d 0 3)
def mK (l:Zb) (_:Int):Prop:=l.length<=1048576
def bY (l:Zb):Zb:=l.map fun n=>IntKind.i64.wrap (0 - (n:Int))
def vR (l:Zb):Prop:=l.length<=1048576
def upA (l:Zb):Zf:=((l++[(-1:Int)]:List Int),(0:Int),false)
def dnA (l:Zb):Zf:=((bY l++[(1:Int)]:List Int),(0:Int),false)
def cy (c:Zj) (l:Ze):Zj:=(c.1,c.2++l)
def eM (c:Zj) (l:Ze):Prop:=fM c/\(∀a∈l,cx a)/\List.length (α:=Zf) c.2+l.length<=1048576
def cP (c:Zj):Zj:=eL c 1
def vS (c:Zj):Prop:=pb c 1
def kI (c:Zj) (l:Zb):Zj:=cy (eL c 1) [upA l,dnA l]
def qX (c:Zj) (l:Zb):Zk×Bool:=b9 (kI c l) c.1
def hL (c:Zj) (l:Zb):Prop:=qI c=true/\dr c l=true/\(c.1:Int)<4
def dT (c:Zj) (l:Zb):Bool:=qI c&&(decide ((List.length (α:=Zf) c.2:Int)<16)&&(decide ((c.1:Int)<4)&&dr c l))
def vT (c:Zj) (l:Zb):Prop:=List.length (α:=Zf) c.2<=1048576/\l.length<=1048576
def g46:G:={ps:=[i35,i25],rs:=[i4],dp:=true,pre:=fun x=>mJ x.1 x.2.1,fn:=fun x=>(dr x.1 x.2.1,())}
def kJ (N:Nat) (b:Zb) (c:Int) (k0:Unit->ZO [i4]):Nat->Int->ZO [i4]
 | 0,_=>none
 | n+1,a=>bif (decide (a<c))then (chk (0<=a/\a<(b.length:Int)) (bif (!((qq ((b.getD a.toNat (qa Zd)):Int)):Bool))then (some (false,()))else (kJ N b c k0 n (IntKind.i64.wrap (a+(1:Int))))))else (k0 ())
def m46 (N:Nat) (b:Zj) (a:Zb):ZO [i4]:=bif (!(decide ((a.length:Int)=(b.1:Int))))then (some (false,()))else (kJ N a (a.length:Int) (fun (_:Unit)=>some (true,())) N (0:Int))
def Γ46:Gam:=[(81,g81)]
theorem qXV:Gam.get Γ46 81=some g81:=rfl
def vU:List Bool:=[O,O,O,O,O,O,O,O,O,O,O,O,I,I,I]
def D6:Nm:=⟨vU,[],false⟩
theorem P5:NmS D6 vU [] false:=nmS
def D7:List Bool:=[]
def P6:Nm:=⟨D7,[],false⟩
theorem qXt:NmS P6 D7 [] false:=nmS
def D8:Nat->Nm:=fun i=>if i=4 then D6 else ⟨[],[],false⟩
def D9:Nat->Option Nm:=fun i=>if i=0 then some P6 else none
theorem p46:qi tr0 (Tryz.f46.body.getD .skip)=true:=by kernel_rfl
def T46 (N:Nat):Tab:={tr:=tr0,lp:=D8,ex:=D9,rg:=rg0,jn:=jn0,fuel:=N}
theorem qUZ (N:Nat):qj Tryz.prog (T46 N):=qn fun _=>rfl
theorem Ea (N:Nat):qr (T46 N) tr0 D8 D9 rg0 jn0 N false:=qt
def P7:Code:=cut [I,I,O,I,I,I] (Tryz.f46.body.getD .skip)
theorem qOm (N:Nat) (b:Zb) (d:Int) {k0:Unit->ZO [i4]} {Q:ZQ [i4]} {c:Code} (f:c=P7) (g: ∀st,Q .ret st=qz tt true [i4] [.tmp 4] st) (e:Q (.exit 0) ⟨[u,u,u,u,u,u,u,u,u,u,u,u,u,u,u,u,u,u,u,u,u,u],[]⟩=k0 ()): ∀(n:Nat) (a:Int),qw (qd tt Γ46 (T46 N) c) false D6 Q n ⟨[u,u,u,u,u,u,u,u,u,u,u,u,.one (.sl 3 Zd b 0),.one (.int .i64 d),.one (.int .i64 a),u,u,u,u,u,u,u],[]⟩=kJ N b d k0 n a:=by
 intro n;induction n with
 | zero=>intros;rfl
 | succ n h=>
   intro a
   rw [qD,qE f,kJ];unfold P7 Tryz.f46
   simp -implicitDefEqProofs [Ea,D9,P5,vU,qXt,D7,qXV,g81,g,e,h]
theorem qPE (N:Nat) (a:Zj) (b:Zb):qd tt Γ46 (T46 N) (Tryz.f46.body.getD .skip) (qk tt true [i4] [.tmp 4]) (qm [i35,i25] 22 (a,b,()))=m46 N a b:=by
 unfold Tryz.f46
 simp -implicitDefEqProofs [Ea,D8,P5,vU]
 rewrite [qOm (k0:=(fun (_:Unit)=>some (true,()))) N _ _ ?_ ?_ ?_]
 ·rewrite [m46];first | rfl | simp -implicitDefEqProofs []
 ·rfl
 ·intro;simp only [qA,qC,qJ]
 ·simp -implicitDefEqProofs [Ea]
theorem e46 (c:Zj) (l:Zb) (h:mJ c l): ∃N,m46 N c l=some (dr c l,()):=⟨l.length+1,by
 rw [m46,dr]
 cases decide ((l.length:Int)=(c.1:Int))with
 | false=>rfl
 | true=>
   simp only [Bool.not_true,cond_false,Bool.true_and]
   refine (bp (F:=fun n i (_:Unit)=>kJ (l.length+1) l l.length (fun _=>some (true,())) n i) (step:=fun _ x _ K=>bif qq x then K ()else some (false,())) (k:=fun _=>some (true,())) h (fun n i s a=>by rw [kJ,qg (by omega),qc (by omega),qB a,b4]) (fun n i s a=>by rw [kJ,qf (by omega)]) _ () (Nat.lt_succ_self _)).trans ((dK l 0).trans ?_)
   cases l.all fun n=>qq n<;>rfl⟩
theorem s46:Sound Tryz.prog 46 g46:=qo (tt:=tt) (Γ:=Γ46) hT (qe s81 ql) hm (fn:=Tryz.f46) Tryz.func46 (c:=Tryz.f46.body.getD .skip) (by kernel_rfl) (by kernel_rfl) fun x a=>by
 obtain ⟨N,h⟩:=e46 x.1 x.2.1 a
 exact ⟨T46 N,p46,qp _,qUZ N,(qPE N x.1 x.2.1).trans h⟩
def g57:G:={ps:=[i35,i33],rs:=[i35],dp:=true,pre:=fun x=>eM x.1 x.2.1,fn:=fun x=>(cy x.1 x.2.1,())}
def kK (N:Nat) (b:Ze) (d e f:Int) (k0:(Ze)->ZO [i35]):Nat->Int->(Ze)->ZO [i35]
 | 0,_,_=>none
 | n+1,a,c=>bif (decide (a<d))then (chk (0<=a/\a<(b.length:Int)) (chk (cx (b.getD a.toNat (qa Y68))) (chk (c.length+([(idA (b.getD a.toNat (qa Y68)))]:Ze).length<=1048576) (kK N b d e f k0 n (IntKind.i64.wrap (a+(1:Int))) (c++([(idA (b.getD a.toNat (qa Y68)))]:Ze))))))else (k0 c)
def m57 (N:Nat) (a:Zj) (b:Ze):ZO [i35]:=chk (fM a) (kK N b (b.length:Int) (0:Int) ((cpC a).1:Int) (fun (c:Ze)=>some ((((cpC a).1:Int),c),())) N (0:Int) ((cpC a).2:Ze))
def Γ57:Gam:=[(85,g85),(95,g95)]
theorem P8:Gam.get Γ57 85=some g85/\Gam.get Γ57 95=some g95:=⟨rfl,rfl⟩
def vV:List Bool:=[O,O,O,O,I,I,O,O,O,O,I,I,I]
def Eb:Nm:=⟨vV,[],false⟩
theorem P9:NmS Eb vV [] false:=nmS
def Ec:List Bool:=[O,O,O,O,I,I]
def Qa:Nm:=⟨Ec,[],false⟩
theorem q1v:NmS Qa Ec [] false:=nmS
def Ed:List Bool:=[O,O,O,O,I,I,O,O,O,O,I,I,I]
def Qb:Nm:=⟨Ed,[],false⟩
theorem qUN:NmS Qb Ed [] false:=nmS
def vW:Nat->Tree:=fun i=>if i=5 then .quiet 2 (.alt 0 (.alt 1 (.alt 3 (.alt 4 (.alt 5 (.quiet 6 (.alt 7 .done .stop)) .stop) .stop) .stop) (.alt 3 (.alt 1 (.alt 4 (.alt 5 (.quiet 6 (.alt 7 .done .stop)) .stop) .stop) (.alt 4 (.quiet 1 (.alt 5 (.quiet 6 (.alt 7 .done .stop)) .stop)) .stop)) .stop)) (.alt 3 (.alt 0 (.alt 1 (.alt 4 (.alt 5 (.quiet 6 (.alt 7 .done .stop)) .stop) .stop) (.alt 4 (.quiet 1 (.alt 5 (.quiet 6 (.alt 7 .done .stop)) .stop)) .stop)) (.alt 4 (.quiet 0 (.quiet 1 (.alt 5 (.quiet 6 (.alt 7 .done .stop)) .stop))) .stop)) .stop))else .done
def Ee:Nat->Nm:=fun i=>if i=3 then Eb else ⟨[],[],false⟩
def Ef:Nat->Option Nm:=fun i=>if i=0 then some Qa else none
def pe:Nat->Option Nm:=fun i=>if i=5 then some Qb else none
theorem p57:qi vW (Tryz.f57.body.getD .skip)=true:=by kernel_rfl
def T57 (N:Nat):Tab:={tr:=vW,lp:=Ee,ex:=Ef,rg:=pe,jn:=jn0,fuel:=N}
theorem qWj (N:Nat):qj Tryz.prog (T57 N):=qn fun _=>rfl
theorem Eg (N:Nat):qr (T57 N) vW Ee Ef pe jn0 N false:=qt
def Qc:Code:=cut [I,I,O,I,I,I] (Tryz.f57.body.getD .skip)
theorem qZy (N:Nat) (f:Ze) (g b d:Int) {k0:(Ze)->ZO [i35]} {Q:ZQ [i35]} {c:Code} (j:c=Qc) (l: ∀st,Q .ret st=qz tt true [i35] [.cell 4 35] st) (i: ∀(h:Ze),Q (.exit 0) ⟨[u,u,u,u,.one (.ptr 0 0 0),.one (.ptr 1 0 0),u,u,u,u,u,u,u,u,u,u,u,u,u,u,u,u,u,u,u],[.box [.int .i64 b,.nils],.box [.int .i64 d,.own 2],.row 68 Y68 h true true 0]⟩=k0 h): ∀(n:Nat) (a:Int) (e:Ze),qw (qd tt Γ57 (T57 N) c) false Eb Q n ⟨[u,u,u,u,.one (.ptr 0 0 0),.one (.ptr 1 0 0),u,u,u,u,.one (.sl 68 Y68 f 3),.one (.int .i64 g),.one (.int .i64 a),u,u,u,u,u,u,u,u,u,u,u,u],[.box [.int .i64 b,.nils],.box [.int .i64 d,.own 2],.row 68 Y68 e true true 0]⟩=kK N f g b d k0 n a e:=by
 intro n;induction n with
 | zero=>intros;rfl
 | succ n k=>
   intro a e
   rw [qD,qE j,kK];unfold Qc Tryz.f57
   simp -implicitDefEqProofs [Eg,vW,Ef,pe,P9,vV,q1v,Ec,qUN,Ed,P8,g95,i,k]
theorem qPQ (N:Nat) (a:Zj) (b:Ze):qd tt Γ57 (T57 N) (Tryz.f57.body.getD .skip) (qk tt true [i35] [.cell 4 35]) (qm [i35,i33] 25 (a,b,()))=m57 N a b:=by
 unfold Tryz.f57
 simp -implicitDefEqProofs [Eg,Ee,pe,P9,vV,P8,g85]
 rewrite [qZy (k0:=(fun (c:Ze)=>some ((((cpC a).1:Int),c),()))) N _ _ _ _ ?_ ?_ ?_]
 ·rewrite [m57];first | rfl | simp -implicitDefEqProofs []
 ·rfl
 ·intro;simp only [qA,qC,qJ]
 ·intro c;simp -implicitDefEqProofs [Eg,pe]
theorem e57 (c:Zj) (l:Ze) (h:eM c l): ∃N,m57 N c l=some (cy c l,()):=⟨l.length+1,by
 obtain ⟨d,xs⟩:=c
 change Int at d
 change List (Zf)at xs
 obtain ⟨h1,h2,b⟩:=h
 have b:xs.length+l.length<=1048576:=b
 rw [m57,qc h1]
 refine (bp (F:=fun n i s=>kK _ l l.length 0 d _ n i s) (step:=fun _ x s K=>chk (s.length+[x].length<=1048576) (K (s++[x]))) (k:=fun s=>some ((d,s),())) (by omega) (fun n i s a=> ?_) (fun n i s a=> ?_) _ xs (Nat.lt_succ_self _)).trans ?_
 ·rw [kK,qg (by omega),qc (by omega),qB a,qc (h2 _ (List.getElem_mem a))]
  rfl
 ·rw [kK,qf (by omega)];rfl
 ·exact (mf (f:=fun x=>x) l 0 xs (by omega)).trans (by simp [cy])⟩
theorem s57:Sound Tryz.prog 57 g57:=qo (tt:=tt) (Γ:=Γ57) hT (qe s85 (qe s95 ql)) hm (fn:=Tryz.f57) Tryz.func57 (c:=Tryz.f57.body.getD .skip) (by kernel_rfl) (by kernel_rfl) fun x a=>by
 obtain ⟨N,h⟩:=e57 x.1 x.2.1 a
 exact ⟨T57 N,p57,qp _,qWj N,(qPQ N x.1 x.2.1).trans h⟩
theorem qPW {l:Zb} {i:Nat} (a:i<l.length):bY (l.take i)++[IntKind.i64.wrap (0 - (l[i]:Int))]=bY (l.take (i+1)):=by
 unfold bY
 rw [<-List.take_append_getElem a,List.map_append];rfl
theorem pf {c:Zj} (h:qI c=true):(0<=(c.1:Int)/\(c.1:Int)<=4)/\List.length (α:=Zf) c.2<=16/\ ∀a∈(c.2:Ze),okD c.1 a:=by
 unfold qI at h
 simp only [Bool.and_eq_true,decide_eq_true_eq,List.all_eq_true]at h
 refine ⟨h.1.1,by omega,fun a b=> ?_⟩
 exact h.2 a b
theorem Qd {c:Zj} (h:qI c=true):pb c 1:=by
 obtain ⟨h1,h2,b⟩:=pf h
 have f:=OX h
 obtain ⟨d,xs⟩:=c
 change Int at d
 have h1:0<=d/\d<=4:=h1
 exact ⟨f,fun a e=>by have:(List.length (α:=Int) a.1:Int)=d:=(b a e).2;omega,by omega,show 0<=d/\d<=100 by omega⟩
theorem hM {c:Zj} {l:Zb} (h:dr c l=true):(l.length:Int)=(c.1:Int)/\ ∀x∈l,qq x=true:=by
 unfold dr at h
 simpa only [Bool.and_eq_true,decide_eq_true_eq,List.all_eq_true] using h
theorem mL (l:Zb):(bY l).length=l.length:=by simp [bY]
theorem Qe {l:Zb} (h: ∀x∈l,qq x=true): ∀x∈bY l,qq x=true:=fun x a=>by
 obtain ⟨y,b,rfl⟩:=List.mem_map.1 a
 have:=h y b
 unfold qq at this ⊢
 simp only [decide_eq_true_eq]at this ⊢
 rw [bn (by omega) (by omega)];omega
theorem Qf: ∀(xs ys:List Int) (g:Nat),gL g (xs++ys)=gL (gL g xs) ys
 | [],_,_=>rfl
 | x::xs,ys,g=>by rw [List.cons_append,gL,gL];exact Qf xs ys _
theorem Qg {a:Zf}:qy a=true↔List.length (α:=Int) a.1<=4/\qq a.2.1=true/\(∀x∈(a.1:List Int),qq x=true)/\gL (Int.natAbs a.2.1) a.1<=1:=by
 unfold qy
 simp only [Bool.and_eq_true,decide_eq_true_eq,List.all_eq_true,and_assoc]
 constructor
 ·exact fun ⟨h1,h2,b,c⟩=>⟨h1,h2,b,by omega⟩
 ·exact fun ⟨h1,h2,b,c⟩=>⟨h1,h2,b,by omega⟩
theorem Qh {l:List Int} {u:Int} (hu:u.natAbs=1) (d:l.length<=3) (h: ∀x∈l,qq x=true):qx (l++[u]) 0 false=(((l++[u]:List Int),(0:Int),false),true):=by
 have c:gL 0 (l++[u])=1:=by
  rw [Qf,gL,gL,hu,Nat.gcd_one_right]
 have hm:List.map (α:=Int) (fun x=>x.tdiv ((1:Nat):Int)) (l++[u])=l++[u]:=by simp
 have b:qy (((l++[u]:List Int),(0:Int),false):Zf)=true:=by
  refine Qg.2 ⟨by show (l++[u]).length<=4;simp;omega,rfl,fun x a=> ?_,by show gL 0 (l++[u])<=1;omega⟩
  rcases List.mem_append.1 a with a | a
  ·exact h x a
  ·rw [List.mem_singleton.1 a];unfold qq;simp only [decide_eq_true_eq];omega
 have e:max 1 (gL (Int.natAbs 0) (l++[u]))=1:=by show max 1 (gL 0 (l++[u]))=1;rw [c];rfl
 show ff (l++[u]) 0 false (max 1 (gL (Int.natAbs 0) (l++[u])))=_
 rw [e]
 unfold ff
 rw [hm,show Int.tdiv 0 ((1:Nat):Int)=0 from rfl,b];rfl
theorem qPj (c:Zj) (l:Zb):List.length (α:=Zf) (kI c l).2=List.length (α:=Zf) c.2+2:=by
 show ((c.2:Ze).map (dS 1)++[upA l,dnA l]).length=_
 simp
def g47:G:={ps:=[i35,i25],rs:=[i60,i4],dp:=true,pre:=fun x=>hL x.1 x.2.1,fn:=fun x=>((qX x.1 x.2.1).1,(qX x.1 x.2.1).2,())}
def kL (N:Nat) (b:Zb) (e q:Int) (r:Ze) (s:Bool) (t u:Int) (f g:Bool) (h i:Int) (j k:Bool) (l:Int) (m:Bool) (o:Int) (p:Bool) (k0:(Zb)->(Zb)->ZO [i60,i4]):Nat->Int->(Zb)->(Zb)->ZO [i60,i4]
 | 0,_,_,_=>none
 | n+1,a,c,d=>bif (decide (a<e))then (chk (0<=a/\a<(b.length:Int)) (chk (c.length+([((b.getD a.toNat (qa Zd)):Int)]:Zb).length<=1048576) (chk (d.length+([(IntKind.i64.wrap (0 - ((b.getD a.toNat (qa Zd)):Int)))]:Zb).length<=1048576) (kL N b e q r s t u f g h i j k l m o p k0 n (IntKind.i64.wrap (a+(1:Int))) (c++([((b.getD a.toNat (qa Zd)):Int)]:Zb)) (d++([(IntKind.i64.wrap (0 - ((b.getD a.toNat (qa Zd)):Int)))]:Zb))))))else (k0 c d)
def m47 (N:Nat) (a:Zj) (d:Zb):ZO [i60,i4]:=kL N d (d.length:Int) (a.1:Int) (a.2:Ze) false (0 0:Int) false false (0 0:Int) false false (0:Int) false (0:Int) false (fun (b c:Zb)=>chk (b.length+([(-1:Int)]:Zb).length<=1048576) (chk (c.length+([(1:Int)]:Zb).length<=1048576) (chk (pb a (1:Int)) (chk (eM (eL a (1:Int)) ([((b++([(-1:Int)]:Zb)),(0:Int),false),((c++([(1:Int)]:Zb)),(0:Int),false)]:Ze)) (some ((b9 (cy (eL a (1:Int)) ([((b++([(-1:Int)]:Zb)),(0:Int),false),((c++([(1:Int)]:Zb)),(0:Int),false)]:Ze)) (a.1:Int)).1,((b9 (cy (eL a (1:Int)) ([((b++([(-1:Int)]:Zb)),(0:Int),false),((c++([(1:Int)]:Zb)),(0:Int),false)]:Ze)) (a.1:Int)).2:Bool),())))))) N (0:Int) ([]:Zb) ([]:Zb)
def Γ47:Gam:=[(57,g57),(82,g82),(83,g83)]
theorem qOS:Gam.get Γ47 57=some g57/\Gam.get Γ47 82=some g82/\Gam.get Γ47 83=some g83:=⟨rfl,rfl,rfl⟩
def vX:List Bool:=[O,O,I,O,I,O,I,I,O,O,O,O,I,I,I]
def Eh:Nm:=⟨vX,[.box 6 0 3 Zd,.box 7 0 3 Zd],false⟩
theorem Qi:NmS Eh vX [.box 6 0 3 Zd,.box 7 0 3 Zd] false:=nmS
def Ei:List Bool:=[O,O,I,O,I,O,I,I]
def Qj:Nm:=⟨Ei,[],false⟩
theorem qS5:NmS Qj Ei [] false:=nmS
def Ej:List Bool:=[O,O,O,O,I,I]
def Qk:Nm:=⟨Ej,[],false⟩
theorem qYq:NmS Qk Ej [] false:=nmS
def vY:Nat->Tree:=fun i=>if i=10 then .keep 0 (.keep 2 (.keep 3 (.keep 6 (.keep 7 (.alt 1 (.alt 4 (.alt 5 (.alt 8 (.quiet 9 (.quiet 10 (.alt 11 (.quiet 12 .done) .stop))) .stop) .stop) .stop) (.alt 4 (.alt 1 (.alt 5 (.alt 8 (.quiet 9 (.quiet 10 (.alt 11 (.quiet 12 .done) .stop))) .stop) .stop) .stop) .stop))))))else .done
def Ek:Nat->Nm:=fun i=>if i=3 then Eh else ⟨[],[],false⟩
def El:Nat->Option Nm:=fun i=>if i=0 then some Qj else none
def pg:Nat->Option Nm:=fun i=>if i=10 then some Qk else none
theorem p47:qi vY (Tryz.f47.body.getD .skip)=true:=by kernel_rfl
def T47 (N:Nat):Tab:={tr:=vY,lp:=Ek,ex:=El,rg:=pg,jn:=jn0,fuel:=N}
theorem qSL (N:Nat):qj Tryz.prog (T47 N):=qn fun _=>rfl
theorem Em (N:Nat):qr (T47 N) vY Ek El pg jn0 N false:=qt
def Ql:Code:=cut [I,I,O,I,I,I] (Tryz.f47.body.getD .skip)
theorem qOs (N:Nat) (v:Zb) (y p:Int) (q:Ze) (r:Bool) (s t:Int) (a b:Bool) (d e:Int) (f g:Bool) (h:Int) (i:Bool) (j:Int) (k:Bool) {k0:(Zb)->(Zb)->ZO [i60,i4]} {Q:ZQ [i60,i4]} {c:Code} (A:c=Ql) (C: ∀st,Q .ret st=qz tt true [i60,i4] [.cell 4 60,.tmp 5] st) (z: ∀(w x:Zb),Q (.exit 0) ⟨[u,u,.one (.ptr 0 0 0),u,.one (.ptr 1 0 0),u,.one (.ptr 2 0 0),.one (.ptr 3 0 0),u,u,u,u,u,u,u,u,u,u,u,u,u,u,u,u,u,u,u,u,u,u,u,u,u,u,u,u,u,u,u,u,u,u,u,u,u,u,u,u,u,u,u,u,u],[.box [.int .i64 p,.sl 68 Y68 q 6],.box [.bool r,.int .i64 s,.int .i64 t,.bool a,.bool b,.int .i64 d,.int .i64 e,.bool f,.bool g],.box [.own 4,.int .i64 h,.bool i],.box [.own 5,.int .i64 j,.bool k],.row 3 Zd w true true 0,.row 3 Zd x true true 0]⟩=k0 w x): ∀(n:Nat) (o:Int) (l m:Zb),qw (qd tt Γ47 (T47 N) c) false Eh Q n ⟨[u,u,.one (.ptr 0 0 0),u,.one (.ptr 1 0 0),u,.one (.ptr 2 0 0),.one (.ptr 3 0 0),u,u,u,u,.one (.sl 3 Zd v 6),.one (.int .i64 y),.one (.int .i64 o),u,u,u,u,u,u,u,u,u,u,u,u,u,u,u,u,u,u,u,u,u,u,u,u,u,u,u,u,u,u,u,u,u,u,u,u,u,u],[.box [.int .i64 p,.sl 68 Y68 q 6],.box [.bool r,.int .i64 s,.int .i64 t,.bool a,.bool b,.int .i64 d,.int .i64 e,.bool f,.bool g],.box [.own 4,.int .i64 h,.bool i],.box [.own 5,.int .i64 j,.bool k],.row 3 Zd l true true 0,.row 3 Zd m true true 0]⟩=kL N v y p q r s t a b d e f g h i j k k0 n o l m:=by
 intro n;induction n with
 | zero=>intros;rfl
 | succ n B=>
   intro o l m
   rw [qD,qE A,kL];unfold Ql Tryz.f47
   simp -implicitDefEqProofs [Em,El,pg,Qi,vX,qS5,Ei,z,B]
theorem qZj (N:Nat) (a:Zj) (b:Zb):qd tt Γ47 (T47 N) (Tryz.f47.body.getD .skip) (qk tt true [i60,i4] [.cell 4 60,.tmp 5]) (qm [i35,i25] 53 (a,b,()))=m47 N a b:=by
 unfold Tryz.f47
 simp -implicitDefEqProofs [Em,Ek,pg,Qi,vX]
 rewrite [qOs N _ _ _ _ _ _ _ _ _ _ _ _ _ _ _ _ _ ?_ ?_ ?_]
 ·rewrite [m47];first | rfl | simp -implicitDefEqProofs []
 ·rfl
 ·intro;simp only [qA,qC,qJ]
 ·intro c d;simp -implicitDefEqProofs [Em,vY,pg,qYq,Ej,qOS,g57,g82,g83]
theorem t47 (N:Nat) (l:Zb) (w:l.length<=1000) (q:Int) (r:Ze) (s:Bool) (t u:Int) (a b:Bool) (c d:Int) (e f:Bool) (g:Int) (j:Bool) (o:Int) (p:Bool) (K:Zb->Zb->ZO [i60,i4]):
 ∀(k i m:Nat),i+k=l.length->k<m->kL N l l.length q r s t u a b c d e f g j o p K m i (l.take i) (bY (l.take i))=K l (bY l)
 | 0,i,m+1,v,_=>by
   rw [kL,qf (by omega),List.take_of_length_le (by omega)]
 | k+1,i,m+1,v,hm=>by
   have h:i<l.length:=by omega
   have x:(l.take i).length<=1000:=by rw [List.length_take];omega
   rw [kL,qg (by omega),qc (by omega),qB h,qc (by simp;omega),qc (by rw [mL];simp;omega),b3 (n:=l.length) h (by omega),qPW h,List.take_append_getElem h]
   exact t47 N l w q r s t u a b c d e f g j o p K k (i+1) m (by omega) (by omega)
theorem qNC {c:Zj} {l:Zb} (h:hL c l):eM (eL c 1) [upA l,dnA l]:=by
 obtain ⟨h1,h2,f⟩:=h
 obtain ⟨g1,g2,g3⟩:=pf h1
 obtain ⟨k1,k2⟩:=hM h2
 obtain ⟨d,xs⟩:=c
 change Int at d
 change List (Zf)at xs
 have g1:0<=d/\d<=4:=g1
 have g2:xs.length<=16:=g2
 have k1:(l.length:Int)=d:=k1
 have g:l.length<=4:=by omega
 refine ⟨⟨trivial,by show (List.map (dS 1) xs).length<=1048576;rw [List.length_map];omega,fun x e=> ?_⟩,fun a b=> ?_,?_⟩
 ·obtain ⟨a,b,rfl⟩:=List.mem_map.1 (show x∈List.map (dS 1) xs from e)
  refine ⟨⟨?_,fun _ _=>trivial⟩,trivial,trivial⟩
  have:(List.length (α:=Int) a.1:Int)=d:=(g3 a b).2
  show ((a.1:List Int)++List.replicate (1:Int).toNat (0:Int)).length<=1048576
  rw [List.length_append,List.length_replicate]
  show List.length (α:=Int) a.1+1<=_
  omega
 ·have b:a=upA l∨a=dnA l:=by simpa using b
  rcases b with rfl | rfl
  ·show (l++[(-1:Int)]).length<=_
   simp;omega
  ·show (bY l++[(1:Int)]).length<=_
   rw [List.length_append,mL];simp;omega
 ·show (List.map (dS 1) xs).length+2<=1048576
  rw [List.length_map];omega
theorem e47 (c:Zj) (l:Zb) (h:hL c l): ∃N,m47 N c l=some ((qX c l).1,(qX c l).2,()):=⟨l.length+1,by
 have a:l.length<=4:=by
  obtain ⟨d,xs⟩:=c
  change Int at d
  have h1:(l.length:Int)=d:=(hM h.2.1).1
  have:d<4:=h.2.2
  omega
 rw [m47]
 refine (t47 _ l (by omega) _ _ _ _ _ _ _ _ _ _ _ _ _ _ _ _ l.length 0 _ (by omega) (Nat.lt_succ_self _)).trans ?_
 rw [qc (by simp;omega),qc (by rw [mL];simp;omega),qc (Qd h.1),qc (show eM ((eL c 1).1,(eL c 1).2) [(l++[(-1:Int)],(0:Int),false),(bY l++[(1:Int)],(0:Int),false)] from qNC h)]
 rfl⟩
theorem s47:Sound Tryz.prog 47 g47:=qo (tt:=tt) (Γ:=Γ47) hT (qe s57 (qe s82 (qe s83 ql))) hm (fn:=Tryz.f47) Tryz.func47 (c:=Tryz.f47.body.getD .skip) (by kernel_rfl) (by kernel_rfl) fun x a=>by
 obtain ⟨N,h⟩:=e47 x.1 x.2.1 a
 exact ⟨T47 N,p47,qp _,qSL N,(qZj N x.1 x.2.1).trans h⟩
def g32:G:={ps:=[i25,i3],rs:=[i4],dp:=true,pre:=fun x=>mK x.1 x.2.1,fn:=fun x=>(hK x.1 x.2.1,())}
def kM (N:Nat) (b:Zb) (c:Int) (k0:Unit->ZO [i4]):Nat->Int->ZO [i4]
 | 0,_=>none
 | n+1,a=>bif (decide (a<(b.length:Int)))then (chk (0<=a/\a<(b.length:Int)) (bif (!((qq ((b.getD a.toNat (qa Zd)):Int)):Bool))then (some (false,()))else (kM N b c k0 n (IntKind.i64.wrap (a+(1:Int))))))else (k0 ())
def m32 (N:Nat) (b:Zb) (a:Int):ZO [i4]:=kM N b a (fun (_:Unit)=>bif (decide ((b.length:Int)=a))then (some (((inR a (0 3:Int)):Bool),()))else (some (false,()))) N (0:Int)
def Γ32:Gam:=[(62,g62),(63,g63)]
theorem Qm:Gam.get Γ32 62=some g62/\Gam.get Γ32 63=some g63:=⟨rfl,rfl⟩
def vZ:List Bool:=[I,I,O,O,O,I]
def En:Nm:=⟨vZ,[],false⟩
theorem Qn:NmS En vZ [] false:=nmS
def Eo:List Bool:=[I,I]
def Qo:Nm:=⟨Eo,[],false⟩
theorem qQj:NmS Qo Eo [] false:=nmS
def Ep:Nat->Nm:=fun i=>if i=2 then En else ⟨[],[],false⟩
def Er:Nat->Option Nm:=fun i=>if i=0 then some Qo else none
theorem p32:qi tr0 (Tryz.f32.body.getD .skip)=true:=by kernel_rfl
def T32 (N:Nat):Tab:={tr:=tr0,lp:=Ep,ex:=Er,rg:=rg0,jn:=jn0,fuel:=N}
theorem qXP (N:Nat):qj Tryz.prog (T32 N):=qn fun _=>rfl
theorem Es (N:Nat):qr (T32 N) tr0 Ep Er rg0 jn0 N false:=qt
def Qp:Code:=cut [I,O,I,I,I] (Tryz.f32.body.getD .skip)
theorem qU1 (N:Nat) (a:Zb) (b:Int) {k0:Unit->ZO [i4]} {Q:ZQ [i4]} {c:Code} (f:c=Qp) (g: ∀st,Q .ret st=qz tt true [i4] [.tmp 4] st) (e:Q (.exit 0) ⟨[.one (.sl 3 Zd a 0),.one (.int .i64 b),u,u,u,u,u,u,u,u,u,u,u,u,u,u,u,u,u,u,u,u,u,u,u,u],[]⟩=k0 ()): ∀(n:Nat) (d:Int),qw (qd tt Γ32 (T32 N) c) false En Q n ⟨[.one (.sl 3 Zd a 0),.one (.int .i64 b),u,u,u,.one (.int .i64 d),u,u,u,u,u,u,u,u,u,u,u,u,u,u,u,u,u,u,u,u],[]⟩=kM N a b k0 n d:=by
 intro n;induction n with
 | zero=>intros;rfl
 | succ n h=>
   intro d
   rw [qD,qE f,kM];unfold Qp Tryz.f32
   simp -implicitDefEqProofs [Es,Er,Qn,vZ,qQj,Eo,Qm,g63,g,e,h]
theorem qNY (N:Nat) (a:Zb) (b:Int):qd tt Γ32 (T32 N) (Tryz.f32.body.getD .skip) (qk tt true [i4] [.tmp 4]) (qm [i25,i3] 26 (a,b,()))=m32 N a b:=by
 unfold Tryz.f32
 simp -implicitDefEqProofs [Es,Ep,Qn,vZ]
 rewrite [qU1 N _ _ ?_ ?_ ?_]
 ·rewrite [m32];first | rfl | simp -implicitDefEqProofs []
 ·rfl
 ·intro;simp only [qA,qC,qJ]
 ·simp -implicitDefEqProofs [Es,Qm,g62]
theorem e32 (l:Zb) (d:Int) (h:mK l d): ∃N,m32 N l d=some (hK l d,()):=⟨l.length+1,by
 rw [m32,hK]
 refine (bp (F:=fun n i (_:Unit)=>kM (l.length+1) l d _ n i) (step:=fun _ x _ K=>bif qq x then K ()else some (false,())) h (fun n i s a=>by rw [kM,qg (by omega),qc (by omega),qB a,b4]) (fun n i s a=>by rw [kM,qf (by omega)]) _ () (Nat.lt_succ_self _)).trans ((dK l 0).trans ?_)
 cases l.all fun n=>qq n with
 | false=>rfl
 | true=>
   simp only [cond_true,Bool.true_and]
   cases decide ((l.length:Int)=d)<;>rfl⟩
theorem s32:Sound Tryz.prog 32 g32:=qo (tt:=tt) (Γ:=Γ32) hT (qe s62 (qe s63 ql)) hm (fn:=Tryz.f32) Tryz.func32 (c:=Tryz.f32.body.getD .skip) (by kernel_rfl) (by kernel_rfl) fun x a=>by
 obtain ⟨N,h⟩:=e32 x.1 x.2.1 a
 exact ⟨T32 N,p32,qp _,qXP N,(qNY N x.1 x.2.1).trans h⟩
def g66:G:={ps:=[i25],rs:=[i25],dp:=true,pre:=fun x=>vR x.1,fn:=fun x=>(bY x.1,())}
def kN (N:Nat) (b:Zb) (k0:(Zb)->ZO [i25]):Nat->Int->(Zb)->ZO [i25]
 | 0,_,_=>none
 | n+1,a,c=>bif (decide (a<(b.length:Int)))then (chk (0<=a/\a<(b.length:Int)) (chk (c.length+([(IntKind.i64.wrap (0 - ((b.getD a.toNat (qa Zd)):Int)))]:Zb).length<=1048576) (kN N b k0 n (IntKind.i64.wrap (a+(1:Int))) (c++([(IntKind.i64.wrap (0 - ((b.getD a.toNat (qa Zd)):Int)))]:Zb)))))else (k0 c)
def m66 (N:Nat) (a:Zb):ZO [i25]:=kN N a (fun (b:Zb)=>some (b,())) N (0:Int) ([]:Zb)
def Γ66:Gam:=[]
def v0:List Bool:=[I,O,O,I,I]
def Et:Nm:=⟨v0,[],false⟩
theorem Qq:NmS Et v0 [] false:=nmS
def Eu:List Bool:=[O,O,O,I]
def Qr:Nm:=⟨Eu,[],false⟩
theorem q0v:NmS Qr Eu [] false:=nmS
def Ev:Nat->Nm:=fun i=>if i=3 then Et else ⟨[],[],false⟩
def Ew:Nat->Option Nm:=fun i=>if i=0 then some Qr else none
theorem p66:qi tr0 (Tryz.f66.body.getD .skip)=true:=by kernel_rfl
def T66 (N:Nat):Tab:={tr:=tr0,lp:=Ev,ex:=Ew,rg:=rg0,jn:=jn0,fuel:=N}
theorem qXS (N:Nat):qj Tryz.prog (T66 N):=qn fun _=>rfl
theorem Ex (N:Nat):qr (T66 N) tr0 Ev Ew rg0 jn0 N false:=qt
def Qs:Code:=cut [I,I,O,I,I,I] (Tryz.f66.body.getD .skip)
theorem qRP (N:Nat) (d:Zb) {k0:(Zb)->ZO [i25]} {Q:ZQ [i25]} {c:Code} (g:c=Qs) (i: ∀st,Q .ret st=qz tt true [i25] [.tmp 2] st) (f: ∀(e:Zb),Q (.exit 0) ⟨[u,u,u,.one (.own 0),u,u,u,u,u,u,u,u,u,u,u,u,u,u,u,u,u],[.row 3 Zd e true true 0]⟩=k0 e): ∀(n:Nat) (a:Int) (b:Zb),qw (qd tt Γ66 (T66 N) c) false Et Q n ⟨[.one (.sl 3 Zd d 1),u,u,.one (.own 0),.one (.int .i64 a),u,u,u,u,u,u,u,u,u,u,u,u,u,u,u,u],[.row 3 Zd b true true 0]⟩=kN N d k0 n a b:=by
 intro n;induction n with
 | zero=>intros;rfl
 | succ n h=>
   intro a b
   rw [qD,qE g,kN];unfold Qs Tryz.f66
   simp -implicitDefEqProofs [Ex,Ew,Qq,v0,q0v,Eu,f,h]
theorem qP8 (N:Nat) (a:Zb):qd tt Γ66 (T66 N) (Tryz.f66.body.getD .skip) (qk tt true [i25] [.tmp 2]) (qm [i25] 21 (a,()))=m66 N a:=by
 unfold Tryz.f66
 simp -implicitDefEqProofs [Ex,Ev,Qq,v0]
 rewrite [qRP N _ ?_ ?_ ?_]
 ·rewrite [m66];first | rfl | simp -implicitDefEqProofs []
 ·rfl
 ·intro;simp only [qA,qC,qJ]
 ·intro b;simp -implicitDefEqProofs [Ex]
theorem e66 (l:Zb) (h:vR l): ∃N,m66 N l=some (bY l,()):=⟨l.length+1,by
 rw [m66]
 refine (bp (F:=fun n i s=>kN (l.length+1) l (fun a=>some (a,())) n i s) (step:=fun _ x s K=>chk (s.length+[IntKind.i64.wrap (0 - (x:Int))].length<=1048576) (K (s++[IntKind.i64.wrap (0 - (x:Int))]))) (k:=fun a=>some (a,())) h (fun n i s b=> ?_) (fun n i s b=> ?_) _ [] (Nat.lt_succ_self _)).trans ?_
 ·rw [kN,qg (by omega),qc (by omega),qB b]
 ·rw [kN,qf (by omega)]
 ·exact (mf (f:=fun x=>IntKind.i64.wrap (0 - (x:Int))) l 0 [] (by simpa using (show l.length<=1048576 from h))).trans (by simp [bY])⟩
theorem s66:Sound Tryz.prog 66 g66:=qo (tt:=tt) (Γ:=Γ66) hT ql hm (fn:=Tryz.f66) Tryz.func66 (c:=Tryz.f66.body.getD .skip) (by kernel_rfl) (by kernel_rfl) fun x a=>by
 obtain ⟨N,h⟩:=e66 x.1 a
 exact ⟨T66 N,p66,qp _,qXS N,(qP8 N x.1).trans h⟩
def g64:G:={ps:=[i35],rs:=[i35],dp:=true,pre:=fun x=>vS x.1,fn:=fun x=>(cP x.1,())}
def jd (N:Nat) (d:Int) (b:Ze) (e f:Int) (k0:(Ze)->ZO [i35]):Nat->Int->(Ze)->ZO [i35]
 | 0,_,_=>none
 | n+1,a,c=>bif (decide (a<(b.length:Int)))then (chk (0<=a/\a<(b.length:Int)) (chk (cx (b.getD a.toNat (qa Y68))) (chk (((idA (b.getD a.toNat (qa Y68))).1:Zb).length+([(0:Int)]:Zb).length<=1048576) (chk (c.length+([((((idA (b.getD a.toNat (qa Y68))).1:Zb)++([(0:Int)]:Zb)),(((idA (b.getD a.toNat (qa Y68))).2).1:Int),(((idA (b.getD a.toNat (qa Y68))).2).2:Bool))]:Ze).length<=1048576) (jd N d b e f k0 n (IntKind.i64.wrap (a+(1:Int))) (c++([((((idA (b.getD a.toNat (qa Y68))).1:Zb)++([(0:Int)]:Zb)),(((idA (b.getD a.toNat (qa Y68))).2).1:Int),(((idA (b.getD a.toNat (qa Y68))).2).2:Bool))]:Ze)))))))else (k0 c)
def m64 (N:Nat) (a:Zj):ZO [i35]:=jd N (a.1:Int) (a.2:Ze) (0:Int) (IntKind.i64.wrap ((a.1:Int)+(1:Int))) (fun (b:Ze)=>some (((IntKind.i64.wrap ((a.1:Int)+(1:Int))),b),())) N (0:Int) ([]:Ze)
def Γ64:Gam:=[(99,g99)]
theorem qRG:Gam.get Γ64 99=some g99:=rfl
def v1:List Bool:=[O,I,I,I,I]
def Ey:Nm:=⟨v1,[.box 3 1 68 Y68],false⟩
theorem Qt:NmS Ey v1 [.box 3 1 68 Y68] false:=nmS
def Ez:List Bool:=[O,O,I,I]
def Qu:Nm:=⟨Ez,[],false⟩
theorem qZY:NmS Qu Ez [] false:=nmS
def EA:Nat->Nm:=fun i=>if i=3 then Ey else ⟨[],[],false⟩
def EB:Nat->Option Nm:=fun i=>if i=0 then some Qu else none
theorem p64:qi tr0 (Tryz.f64.body.getD .skip)=true:=by kernel_rfl
def T64 (N:Nat):Tab:={tr:=tr0,lp:=EA,ex:=EB,rg:=rg0,jn:=jn0,fuel:=N}
theorem qPt (N:Nat):qj Tryz.prog (T64 N):=qn fun _=>rfl
theorem EC (N:Nat):qr (T64 N) tr0 EA EB rg0 jn0 N false:=qt
def Qv:Code:=cut [I,I,O,I,I,I] (Tryz.f64.body.getD .skip)
theorem qUR (N:Nat) (f:Int) (g:Ze) (b d:Int) {k0:(Ze)->ZO [i35]} {Q:ZQ [i35]} {c:Code} (j:c=Qv) (l: ∀st,Q .ret st=qz tt true [i35] [.cell 2 35] st) (i: ∀(h:Ze),Q (.exit 0) ⟨[u,u,.one (.ptr 0 0 0),.one (.ptr 1 0 0),u,u,u,u,u,u,u,u,u,u,u,u,u,u,u,u,u,u,u,u,u,u,u,u,u,u,u,u,u,u,u],[.box [.int .i64 b,.nils],.box [.int .i64 d,.own 2],.row 68 Y68 h true true 0]⟩=k0 h): ∀(n:Nat) (a:Int) (e:Ze),qw (qd tt Γ64 (T64 N) c) false Ey Q n ⟨[u,.one (.ptr 0 0 0),.one (.ptr 1 0 0),.one (.ptr 2 0 0),.one (.int .i64 a),u,u,u,u,u,u,u,u,u,u,u,u,u,u,u,u,u,u,u,u,u,u,u,u,u,u,u,u,u,u],[.box [.int .i64 f,.sl 68 Y68 g 4],.box [.int .i64 b,.nils],.box [.int .i64 d,.own 3],.row 68 Y68 e true true 0]⟩=jd N f g b d k0 n a e:=by
 intro n;induction n with
 | zero=>intros;rfl
 | succ n k=>
   intro a e
   rw [qD,qE j,jd];unfold Qv Tryz.f64
   simp -implicitDefEqProofs [EC,EB,Qt,v1,qZY,Ez,qRG,g99,i,k]
theorem qXM (N:Nat) (a:Zj):qd tt Γ64 (T64 N) (Tryz.f64.body.getD .skip) (qk tt true [i35] [.cell 2 35]) (qm [i35] 35 (a,()))=m64 N a:=by
 unfold Tryz.f64
 simp -implicitDefEqProofs [EC,EA,Qt,v1]
 rewrite [qUR N _ _ _ _ ?_ ?_ ?_]
 ·rewrite [m64];first | rfl | simp -implicitDefEqProofs []
 ·rfl
 ·intro;simp only [qA,qC,qJ]
 ·intro b;simp -implicitDefEqProofs [EC]
theorem e64 (c:Zj) (h:vS c): ∃N,m64 N c=some (cP c,()):=⟨List.length (α:=Zf) c.2+1,by
 obtain ⟨d,xs⟩:=c
 change Int at d
 change List (Zf)at xs
 obtain ⟨g,j,hm,hd⟩:=h
 have hd:0<=d/\d<=100:=hd
 have e:xs.length<=1048576:=g.2.1
 rw [m64]
 show jd _ d xs 0 (IntKind.i64.wrap (d+1)) (fun a=>some ((IntKind.i64.wrap (d+1),a),())) _ 0 []=_
 rw [bn (by omega) (by omega)]
 refine (bp (F:=fun n i s=>jd _ d xs 0 (d+1) (fun a=>some ((d+1,a),())) n i s) (step:=fun _ x s K=>chk (s.length+[dS 1 x].length<=1048576) (K (s++[dS 1 x]))) (k:=fun a=>some ((d+1,a),())) e (fun n i s b=> ?_) (fun n i s b=> ?_) _ [] (Nat.lt_succ_self _)).trans ?_
 ·have:=j _ (List.getElem_mem b)
  rw [jd,qg (by omega),qc (by omega),qB b,qc (show cx _ from by show List.length (α:=Int) _<=_;omega),qc (show List.length (α:=Int) (idA xs[i]).1+[(0:Int)].length<=1048576 from by show List.length (α:=Int) xs[i].1+1<=_;omega)]
  rfl
 ·rw [jd,qf (by omega)]
 ·exact (mf (f:=dS 1) xs 0 [] (by simpa using e)).trans (by simp [cP,eL])⟩
theorem s64:Sound Tryz.prog 64 g64:=qo (tt:=tt) (Γ:=Γ64) hT (qe s99 ql) hm (fn:=Tryz.f64) Tryz.func64 (c:=Tryz.f64.body.getD .skip) (by kernel_rfl) (by kernel_rfl) fun x a=>by
 obtain ⟨N,h⟩:=e64 x.1 a
 exact ⟨T64 N,p64,qp _,qPt N,(qXM N x.1).trans h⟩
theorem Qw {l:Zb} (h: ∀x∈l,qq x=true) {u:Int} (hu:u.natAbs=1): ∀x∈(l++[u]:List Int),inI x:=fun x a=>by
 rcases List.mem_append.1 a with a | a
 ·have:=h x a
  unfold qq at this
  simp only [decide_eq_true_eq]at this
  unfold inI;omega
 ·rw [List.mem_singleton.1 a];unfold inI;omega
theorem q3E {c:Zj} {l:Zb} (h:16<List.length (α:=Zf) c.2+2):qX c l=(noB,false):=by
 unfold qX b9
 cases a:qI (kI c l)with
 | false=>rfl
 | true=>
   have:=(pf a).2.1
   rw [qPj]at this
   omega
def g33:G:={ps:=[i35,i25],rs:=[i60,i4],dp:=true,pre:=fun x=>hL x.1 x.2.1,fn:=fun x=>((qX x.1 x.2.1).1,(qX x.1 x.2.1).2,())}
def m33 (N:Nat) (b:Zj) (a:Zb):ZO [i60,i4]:=chk (vS b) (chk (([]:Zb).length+a.length<=1048576) (chk ((([]:Zb)++a).length+([(-1:Int)]:Zb).length<=1048576) (chk (bx ((([]:Zb)++a)++([(-1:Int)]:Zb)) (0:Int) false) (chk (vR a) (chk (((bY a):Zb).length+([(1:Int)]:Zb).length<=1048576) (chk (bx (((bY a):Zb)++([(1:Int)]:Zb)) (0:Int) false) (chk (((cP b).2:Ze).length+([(qx ((([]:Zb)++a)++([(-1:Int)]:Zb)) (0:Int) false).1]:Ze).length<=1048576) (chk ((((cP b).2:Ze)++([(qx ((([]:Zb)++a)++([(-1:Int)]:Zb)) (0:Int) false).1]:Ze)).length+([(qx (((bY a):Zb)++([(1:Int)]:Zb)) (0:Int) false).1]:Ze).length<=1048576) (bif (!((qx ((([]:Zb)++a)++([(-1:Int)]:Zb)) (0:Int) false).2:Bool))then (some ((false,((0:Int),(0:Int)),false,false,((0:Int),(0:Int)),false,false),false,()))else (bif (!((qx (((bY a):Zb)++([(1:Int)]:Zb)) (0:Int) false).2:Bool))then (some ((false,((0:Int),(0:Int)),false,false,((0:Int),(0:Int)),false,false),false,()))else (bif (decide ((16:Int)<(((((cP b).2:Ze)++([(qx ((([]:Zb)++a)++([(-1:Int)]:Zb)) (0:Int) false).1]:Ze))++([(qx (((bY a):Zb)++([(1:Int)]:Zb)) (0:Int) false).1]:Ze)).length:Int)))then (some ((false,((0:Int),(0:Int)),false,false,((0:Int),(0:Int)),false,false),false,()))else (chk (Cp (((cP b).1:Int),((((cP b).2:Ze)++([(qx ((([]:Zb)++a)++([(-1:Int)]:Zb)) (0:Int) false).1]:Ze))++([(qx (((bY a):Zb)++([(1:Int)]:Zb)) (0:Int) false).1]:Ze))) (b.1:Int)) (some ((b9 (((cP b).1:Int),((((cP b).2:Ze)++([(qx ((([]:Zb)++a)++([(-1:Int)]:Zb)) (0:Int) false).1]:Ze))++([(qx (((bY a):Zb)++([(1:Int)]:Zb)) (0:Int) false).1]:Ze))) (b.1:Int)).1,((b9 (((cP b).1:Int),((((cP b).2:Ze)++([(qx ((([]:Zb)++a)++([(-1:Int)]:Zb)) (0:Int) false).1]:Ze))++([(qx (((bY a):Zb)++([(1:Int)]:Zb)) (0:Int) false).1]:Ze))) (b.1:Int)).2:Bool),()))))))))))))))
def Γ33:Gam:=[(64,g64),(65,g65),(66,g66),(67,g67)]
theorem qQw:Gam.get Γ33 64=some g64/\Gam.get Γ33 65=some g65/\Gam.get Γ33 66=some g66/\Gam.get Γ33 67=some g67:=⟨rfl,rfl,rfl,rfl⟩
def ED:List Bool:=[O,O,I,O,I,O,I,O,I,O,I]
def Qx:Nm:=⟨ED,[],false⟩
theorem qWW:NmS Qx ED [] false:=nmS
def v2:Nat->Tree:=fun i=>if i=4 then .keep 0 (.keep 1 (.keep 2 (.keep 5 (.alt 3 (.alt 4 (.alt 6 (.alt 7 (.quiet 8 (.alt 9 .done .stop)) .stop) .stop) (.alt 6 (.alt 4 (.alt 7 (.quiet 8 (.alt 9 .done .stop)) .stop) .stop) .stop)) (.alt 6 (.alt 3 (.alt 4 (.alt 7 (.quiet 8 (.alt 9 .done .stop)) .stop) .stop) .stop) .stop)))))else .done
def EE:Nat->Option Nm:=fun i=>if i=4 then some Qx else none
theorem p33:qi v2 (Tryz.f33.body.getD .skip)=true:=by kernel_rfl
def T33 (N:Nat):Tab:={tr:=v2,lp:=lp0,ex:=ex0,rg:=EE,jn:=jn0,fuel:=N}
theorem qTI (N:Nat):qj Tryz.prog (T33 N):=qn fun _=>rfl
theorem qZJ (N:Nat):qr (T33 N) v2 lp0 ex0 EE jn0 N false:=qt
theorem qYv (N:Nat) (a:Zj) (b:Zb):qd tt Γ33 (T33 N) (Tryz.f33.body.getD .skip) (qk tt true [i60,i4] [.cell 4 60,.tmp 5]) (qm [i35,i25] 63 (a,b,()))=m33 N a b:=by
 rw [m33];unfold Tryz.f33
 simp (maxSteps:=10000000) -implicitDefEqProofs [qZJ,v2,EE,qWW,ED,qQw,g64,g65,g66,g67]
 try rfl
theorem e33 (c:Zj) (l:Zb) (h:hL c l): ∃N,m33 N c l=some ((qX c l).1,(qX c l).2,()):=⟨0,by
 have hk:=hM h.2.1
 have i:=pf h.1
 have b:l.length<=3:=by
  obtain ⟨d,xs⟩:=c
  change Int at d
  have h1:(l.length:Int)=d:=hk.1
  have:d<4:=h.2.2
  omega
 have a:((cP c).2:Ze).length=List.length (α:=Zf) c.2:=by
  show (List.map (dS 1) (c.2:Ze)).length=_
  rw [List.length_map]
 have g:qx (([]++l)++[(-1:Int)]) 0 false=(upA l,true):=Qh (l:=l) rfl b hk.2
 have f:qx (bY l++[(1:Int)]) 0 false=(dnA l,true):=Qh (l:=bY l) rfl (by rw [mL];exact b) (Qe hk.2)
 rw [m33,qc (show vS c from Qd h.1),qc (by simp;omega),qc (by simp;omega),qc (show bx (([]++l)++[(-1:Int)]) 0 false from ⟨by simp;omega,by unfold inI;omega,Qw (l:=l) hk.2 rfl⟩),qc (show vR l from by show l.length<=_;omega),qc (by rw [mL];simp;omega),qc (show bx (bY l++[(1:Int)]) 0 false from ⟨by rw [List.length_append,mL];simp;omega,by unfold inI;omega,Qw (Qe hk.2) rfl⟩),
  qc (by rw [a,List.length_singleton];omega),qc (by rw [List.length_append,a,List.length_singleton,List.length_singleton];omega),g,f]
 simp only [Bool.not_true,cond_false]
 by_cases hlen:16<List.length (α:=Zf) c.2+2
 ·rw [qg (by rw [List.length_append,List.length_append,a,List.length_singleton,List.length_singleton];omega),q3E hlen]
  rfl
 ·rw [qf (by rw [List.length_append,List.length_append,a,List.length_singleton,List.length_singleton];omega),qc (by
   show (((cP c).2++[upA l])++[dnA l]:Ze).length<=1048576
   rw [List.length_append,List.length_append,a,List.length_singleton,List.length_singleton];omega)]
  have e:(((cP c).1,((cP c).2++[upA l])++[dnA l]):Zj)=kI c l:=by
   show _=(((eL c 1).1,(eL c 1).2++[upA l,dnA l]):Zj)
   rw [show ([upA l,dnA l]:Ze)=[upA l]++[dnA l] from rfl,<-List.append_assoc]
   rfl
  show some ((b9 (((cP c).1,((cP c).2++[upA l])++[dnA l]):Zj) c.1).1,(b9 (((cP c).1,((cP c).2++[upA l])++[dnA l]):Zj) c.1).2,())=_
  rw [e];rfl⟩
theorem s33:Sound Tryz.prog 33 g33:=qo (tt:=tt) (Γ:=Γ33) hT (qe s64 (qe s65 (qe s66 (qe s67 ql)))) hm (fn:=Tryz.f33) Tryz.func33 (c:=Tryz.f33.body.getD .skip) (by kernel_rfl) (by kernel_rfl) fun x a=>by
 obtain ⟨N,h⟩:=e33 x.1 x.2.1 a
 exact ⟨T33 N,p33,qp _,qTI N,(qYv N x.1 x.2.1).trans h⟩
def g20:G:={ps:=[i35,i25],rs:=[i4],dp:=true,pre:=fun x=>vT x.1 x.2.1,fn:=fun x=>(dT x.1 x.2.1,())}
def m20 (N:Nat) (a:Zj) (b:Zb):ZO [i4]:=bif ((qI a):Bool)then (bif (decide (((a.2:Ze).length:Int)<(16:Int)))then (bif (decide ((a.1:Int)<(4:Int)))then (chk (mJ a b) (some (((dr a b):Bool),())))else (some (false,())))else (some (false,())))else (some (false,()))
def Γ20:Gam:=[(45,g45),(46,g46)]
theorem q2t:Gam.get Γ20 45=some g45/\Gam.get Γ20 46=some g46:=⟨rfl,rfl⟩
theorem p20:qi tr0 (Tryz.f20.body.getD .skip)=true:=by kernel_rfl
def T20 (N:Nat):Tab:={tr:=tr0,lp:=lp0,ex:=ex0,rg:=rg0,jn:=jn0,fuel:=N}
theorem qQC (N:Nat):qj Tryz.prog (T20 N):=qn fun _=>rfl
theorem q2W (N:Nat):qr (T20 N) tr0 lp0 ex0 rg0 jn0 N false:=qt
theorem q12 (N:Nat) (a:Zj) (b:Zb):qd tt Γ20 (T20 N) (Tryz.f20.body.getD .skip) (qk tt true [i4] [.tmp 4]) (qm [i35,i25] 23 (a,b,()))=m20 N a b:=by
 rw [m20];unfold Tryz.f20
 simp -implicitDefEqProofs [q2W,q2t,g45,g46]
 try rfl
theorem e20 (c:Zj) (l:Zb) (h:vT c l): ∃N,m20 N c l=some (dT c l,()):=⟨0,by
 rw [m20,dT]
 cases qI c with
 | false=>rfl
 | true=>
   cases decide ((List.length (α:=Zf) c.2:Int)<16)with
   | false=>rfl
   | true=>
     cases decide ((c.1:Int)<4)with
     | false=>rfl
     | true=>
       simp only [cond_true,Bool.true_and]
       rw [qc (show mJ c l from h.2)]⟩
theorem s20:Sound Tryz.prog 20 g20:=qo (tt:=tt) (Γ:=Γ20) hT (qe s45 (qe s46 ql)) hm (fn:=Tryz.f20) Tryz.func20 (c:=Tryz.f20.body.getD .skip) (by kernel_rfl) (by kernel_rfl) fun x a=>by
 obtain ⟨N,h⟩:=e20 x.1 x.2.1 a
 exact ⟨T20 N,p20,qp _,qQC N,(q12 N x.1 x.2.1).trans h⟩
theorem EF {c:Zj} {l:Zb} (h:qI c=true):hK l c.1=(decide ((c.1:Int)<4)&&dr c l):=by
 have:=(pf h).1
 obtain ⟨d,xs⟩:=c
 change Int at d
 have this:0<=d/\d<=4:=this
 show (l.all (fun n=>qq n)&&(decide ((l.length:Int)=d)&&decide (0<=d/\d<=3)))=(decide (d<4)&&(decide ((l.length:Int)=d)&&l.all fun n=>qq n))
 have e:decide (0<=d/\d<=3)=decide (d<4):=by
  rw [decide_eq_decide];omega
 rw [e]
 cases l.all (fun n=>qq n)<;>cases decide ((l.length:Int)=d)<;>cases decide (d<4)<;>rfl
end
end Go.T
