import Derived.Test.YtllelgnepalfjaaGreatK11
import Derived.Test.YtllelgnepalfjaaGreatRows
import Derived.WalkKit
import Derived.ProofKit
import Derived.OpenShut
import Derived.ShutString
import Derived.ChangeOld
import Derived.Below
set_option linter.unusedSimpArgs false
set_option linter.unusedVariables false
namespace Go.Proofs.YtllelgnepalfjaaGreat.LawBestOf
open Go.T
open Go.ChangeShapes Go.WideShapes Go.ChangeAt Go.RowKit
open Go.ChangeMaps (open_string shut_string)
set_option linter.unusedVariables false
theorem own:ownKnob Tryz.prog.godebug=none:=by kernel_rfl
theorem laidOut:laidOutB Tryz.prog=true:=by kernel_rfl
set_option maxRecDepth 100000 in
theorem lifted (os:Os) (started:os.Started) (H:Type) (enc:TypeId×Value->H):
 ReturnsInHanded {} Tryz.checked os 3 .any (Rows.fnExactBestOfSpec.pre6 enc Tryz.prog Tryz.f3 Rows.fnExactBestOfRow.domain false) (Rows.fnExactBestOfSpec.post enc Tryz.prog Tryz.f3 false true false false):=by
 refine returnsInHanded_of_change (C:=Tryz.checked) own started (by kernel_rfl) Tryz.func3
  (ChangeSpec.witness6 (enc:=enc) (C:=Tryz.checked) false ⟨#[], #[.agg #[.int .i64 0,.slice none 0 0],.slice none 0 0],[]⟩ 8 (by kernel_rfl) (by kernel_rfl) (by kernel_rfl) (by kernel_rfl)) ?_
 intro W base args y gs before r o U _
 have g: ∀(j:Nat) t v,Tryz.f3.params[j]?=some t->args[j]?=some v->Value.okWide Tryz.prog W .any base t v:=r
 have D:=o
 obtain ⟨p,q,l,A,rfl,V,X⟩:=o
 have i:DataW.TrodAll enc Tryz.prog W 0 (fun _=>true) true Tryz.f3.params.toList args.toList y p:=l
 rw [Tryz.params3]at i g
 obtain ⟨c,aa,d0,R,G,Y,T,rfl,rfl,f,J⟩:=trodAll_cons i
 obtain ⟨b,ab,d1,S,I,Z,rfl,rfl,rfl,h1,K⟩:=trodAll_cons J
 obtain ⟨rfl,rfl,rfl⟩:=trodAll_nil K
 obtain rfl:args= #[c,b]:=by cases args;simp_all
 obtain ⟨rfl,rfl⟩:=trodVars_none A
 have E: ∀x∈G,x.block<W.heap.size:=by obtain ⟨m,hm⟩:=f;exact DataW.trod_lt m _ _ _ hm
 have F: ∀x∈I,x.block<W.heap.size:=by obtain ⟨m,hm⟩:=h1;exact DataW.trod_lt m _ _ _ hm
 obtain ⟨N,w,k0,w0,L⟩:=JR (n:=40) (ti:=i24) (by kernel_rfl) (by kernel_rfl) (g 0 24 c rfl rfl) f
 obtain ⟨O,c1,k1,M,s1⟩:=JR (n:=40) (ti:=i25) (by kernel_rfl) (by kernel_rfl) (g 1 25 b rfl rfl) h1
 clear l r
 refine (s3.runs (N,O,()) ⟨L,s1,trivial⟩ W (fun _=>True) #[c,b] ⟨c,[b],w,rfl,k0,w0,b,[],c1,rfl,k1,M,rfl⟩ (fun _ _=>trivial)).mono fun e s he=> ?_
 obtain ⟨us,rfl,a,B,⟨u,rest,cs,P,Q,rfl,rfl,z,hw,rfl,rfl⟩,_⟩:=he
 obtain ⟨rfl,rfl⟩:=z
 simp only [cb]at hw
 obtain rfl:u= .bool true:=(List.cons.inj hw).1.symm
 have d:Below W.heap.size W s:=⟨a.os,a.tape,a.output,a.size,fun k hk=>a.block k hk (fun h=>h)⟩
 exact ⟨_,rfl,_,_,_,[],_,[],D,trodAll_mk1 (shut_bool Tryz.underlying4 _),
  (trodAll_cons_mk (Below.trod laidOut (by kernel_rfl) (of_decide_eq_true (by kernel_rfl)) f d E) (trodAll_cons_mk (Below.trod laidOut (by kernel_rfl) (of_decide_eq_true (by kernel_rfl)) h1 d F) trodAll_mk0)),rfl,d.frame _,fun h=>by cases h⟩
theorem make_of {P : Program} {c : List Char} {r : List (List Char)} (h : behindMainWord (wordsSigns P.initOrder.toList) = c :: r) (h1 : (c == "gc".toList || c == "spec".toList) = false) (h2 : (c == "cut".toList) = true) : P.make = some .cut := by
 unfold Program.make
 rw [h]
 simp only [h1,h2,Bool.true_or,if_true,Bool.false_eq_true,if_false]
theorem lifts_of {P : Program} {c : List Char} {r : List (List Char)} (h : behindMainWord (wordsSigns P.initOrder.toList) = c :: r) (h1 : ((c :: r).head? == some "carried".toList) = false) (h2 : stripLifts liftWords (c :: r) = ([], c :: r)) : P.liftsFinal = false := by
 unfold Program.liftsFinal Program.headLifts
 rw [h]
 simp only [h1,h2,Bool.false_and,Bool.false_or]
 split<;>rfl
theorem enter_of {P : Program} {c : List Char} {r : List (List Char)} (h : behindMainWord (wordsSigns P.initOrder.toList) = c :: r) (h1 : ((c :: r).head? == some "cut".toList) = true) (h2 : stripLifts liftWords (c :: r) = ([], c :: r)) (a : P.laysLater = false) (b : P.bearsReflect = false) (d : P.doorFits [] = true) : P.mayEnter = true := by
 unfold Program.mayEnter
 rw [h]
 simp only [h2,a,b,d,h1,Bool.not_false,Bool.or_true,Bool.and_true,List.contains_nil]
def cs:List Char:=[104,97,114,110,101,115,115,32,97,53,55,49,101,97,100,57,51,51,56,50,101,56,55,98,99,101,53,51,97,99,102,98,97,101,56,51,55,53,56,101,50,56,55,101,99,48,51,99,99,52,48,57,97,57,57,48,51,51,99,101,102,57,54,97,54,55,99,101,98,56,100,99,32,99,117,116,32,97,116,32,108,111,111,112,46,101,120,97,109,112,108,101,47,103,48,51,52,49,51,47,108,97,119,115,46,70,110,69,120,97,99,116,66,101,115,116,79,102].map Char.ofNat
def wd:List Char:=[99,117,116].map Char.ofNat
def rs:List (List Char):=[[97,116].map Char.ofNat,[108,111,111,112,46,101,120,97,109,112,108,101,47,103,48,51,52,49,51,47,108,97,119,115,46,70,110,69,120,97,99,116,66,101,115,116,79,102].map Char.ofNat]
theorem io:Tryz.pinned.checked.prog.initOrder=String.ofList cs:=by kernel_rfl
theorem io1:Tryz.pinned.checked.prog.initOrder.toList=cs:=by rw [io,String.toList_ofList]
theorem io3:behindMainWord (wordsSigns cs)=wd::rs:=by kernel_rfl
theorem io2:behindMainWord (wordsSigns Tryz.pinned.checked.prog.initOrder.toList)=wd::rs:=by rw [io1,io3]
theorem k_ll:Tryz.pinned.checked.prog.laysLater=false:=by kernel_rfl
theorem k_br:Tryz.pinned.checked.prog.bearsReflect=false:=by kernel_rfl
theorem k_df:Tryz.pinned.checked.prog.doorFits []=true:=by kernel_rfl
theorem k_sl:stripLifts liftWords (wd::rs)=([],wd::rs):=by kernel_rfl
theorem k_mk:Tryz.pinned.checked.prog.make=some .cut:=make_of io2 (by kernel_rfl) (by kernel_rfl)
theorem k_li:Tryz.pinned.checked.prog.liftsFinal=false:=lifts_of io2 (by kernel_rfl) k_sl
theorem k_me:Tryz.pinned.checked.prog.mayEnter=true:=enter_of io2 (by kernel_rfl) k_sl k_ll k_br k_df
theorem k_laid:laidOutB Tryz.pinned.checked.prog=true:=by kernel_rfl
theorem k_rowed:mapsRowed Tryz.pinned.checked.prog=true:=by kernel_rfl
theorem k_heard:Tryz.pinned.checked.prog.stopsHeard=true:=by kernel_rfl
theorem k_inPlace:(Rows.fnExactBestOfRow.inPlace==Tryz.pinned.checked.prog.inPlace 3)=true:=by kernel_rfl
theorem k_unf:(Rows.fnExactBestOfRow.unfollowed==Tryz.pinned.checked.prog.unfollowed 3)=true:=by kernel_rfl
theorem k_rec:(Rows.fnExactBestOfRow.recurses==Tryz.pinned.checked.prog.recurses 3)=true:=by kernel_rfl
theorem k_named:(Rows.fnExactBestOfRow.named==Tryz.pinned.checked.prog.varsNamed 3)=true:=by kernel_rfl
theorem k_plain:(Rows.fnExactBestOfRow.plainKeys==Tryz.pinned.checked.prog.plainKeys)=true:=by kernel_rfl
set_option maxRecDepth 100000 in
theorem closed:joinedFacts Tryz.pinned.checked.prog 3 Tryz.f3 Rows.fnExactBestOfSpec Rows.fnExactBestOfRow=true:=by
 unfold joinedFacts
 rw [k_me,k_mk,k_li,k_laid,k_rowed,k_heard,k_inPlace,k_unf,k_rec,k_named,k_plain]
 kernel_rfl
theorem over:Rows.fnExactBestOfRow.holds Tryz.pinned (OpenSpec.ofChange Rows.fnExactBestOfSpec):=
 OpenClaim.holds_of_wide 3 Tryz.f3 rfl rfl rfl rfl rfl rfl rfl ⟨rfl,rfl,rfl,rfl,rfl⟩ rfl rfl rfl rfl rfl (by kernel_rfl) Tryz.func3 (closed)
  (of_decide_eq_true (by kernel_rfl)) (by unfold Func.isWrapper;first | (rw [if_pos (by decide+kernel)];kernel_rfl) | (rw [if_neg (by decide+kernel)];exact ⟨rfl,rfl⟩))
  (fun os started H enc _=>lifted os started H enc)
theorem proved:Rows.FnExactBestOfSaid:=over
#print axioms proved
end Go.Proofs.YtllelgnepalfjaaGreat.LawBestOf
