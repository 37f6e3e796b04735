/-
  The law of PointOf: for every input the program's PointOf returns what the reference's returns, shares no memory with its arguments or with another call's result (the law returns true), and the arguments read as before. No condition.
-/
import Derived.Test.YthefcjjgchekiaaGreatF15
import Derived.Test.YthefcjjgchekiaaGreatRows
import Derived.WalkKit
import Derived.ProofKit
import Derived.OpenShut
import Derived.ShutString
import Derived.ChangeOld
import Derived.Below
set_option linter.unusedSimpArgs false
set_option linter.unusedVariables false
namespace Go.Proofs.YthefcjjgchekiaaGreat.LawPointOf
open Go.T
open Go.ChangeShapes Go.WideShapes Go.ChangeAt Go.RowKit
open Go.ChangeMaps (open_string shut_string)
set_option linter.unusedVariables false
theorem own:ownKnob Tryz.prog.godebug=none:=by kernel_rfl
theorem laidOut:laidOutB Tryz.prog=true:=by kernel_rfl
set_option maxRecDepth 100000 in
theorem lifted (os:Os) (started:os.Started) (H:Type) (enc:TypeId×Value→H):
 ReturnsInHanded {} Tryz.checked os 8 .any (Rows.fnExactPointOfSpec.pre6 enc Tryz.prog Tryz.f8 Rows.fnExactPointOfRow.domain false) (Rows.fnExactPointOfSpec.post enc Tryz.prog Tryz.f8 false true false false):=by
 refine returnsInHanded_of_change (C:=Tryz.checked) own started (by kernel_rfl) Tryz.func8
  (ChangeSpec.witness6 (enc:=enc) (C:=Tryz.checked) false ⟨#[], #[.agg #[.int .i64 0,.slice none 0 0]],[]⟩ 8 (by kernel_rfl) (by kernel_rfl) (by kernel_rfl) (by kernel_rfl)) ?_
 intro W base args ds gs before hval0 hW hcnd _
 have hval: ∀(j:Nat) t v,Tryz.f8.params[j]?=some t→args[j]?=some v→Value.okWide Tryz.prog W .any base t v:=hval0
 have hW':=hW
 obtain ⟨p,q,hA0,hV,rfl,hfz,hnd⟩:=hW
 have hA:DataW.TrodAll enc Tryz.prog W 0 (fun _=>true) true Tryz.f8.params.toList args.toList ds p:=hA0
 rw [Tryz.params8]at hA hval
 obtain ⟨v0,vs0,d0,ds0,p0,q0,hargs,rfl,rfl,h0,r0⟩:=trodAll_cons hA
 obtain ⟨rfl,rfl,rfl⟩:=trodAll_nil r0
 obtain rfl:args= #[v0]:=by cases args;simp_all
 obtain ⟨rfl,rfl⟩:=trodVars_none hV
 have lt0: ∀x∈p0,x.block<W.heap.size:=by obtain ⟨m,hm⟩:=h0;exact DataW.trod_lt m _ _ _ hm
 obtain ⟨x0,c0,k0,w0,s0⟩:=quF (n:=40) (ti:=i42) (by kernel_rfl) (by kernel_rfl) (hval 0 42 v0 rfl rfl) h0
 clear hA0 hval0
 refine (s8.runs (x0,()) ⟨s0,trivial⟩ W (fun _=>True) #[v0] ⟨v0,[],c0,rfl,k0,w0,rfl⟩ (fun _ _=>trivial)).mono fun e W' he=> ?_
 obtain ⟨us,rfl,hfr,B,⟨u,rest,cs,B1,B2,rfl,rfl,hM,hw,rfl,rfl⟩,_⟩:=he
 obtain ⟨rfl,rfl⟩:=hM
 simp only [qaQ]at hw
 obtain rfl:u= .bool true:=(List.cons.inj hw).1.symm
 have bel:Below W.heap.size W W':=⟨hfr.os,hfr.tape,hfr.output,hfr.size,fun k hk=>hfr.block k hk (fun h=>h)⟩
 exact ⟨_,rfl,_,_,_,[],_,[],hW',trodAll_mk1 (shut_bool Tryz.underlying4 _),
  (trodAll_cons_mk (Below.trod laidOut (by kernel_rfl) (of_decide_eq_true (by kernel_rfl)) h0 bel lt0) trodAll_mk0),rfl,bel.frame _,fun h=>by cases h⟩
theorem make_of {P : Program} {c : List Char} {r : List (List Char)} (h : behindMainWord (wordsSigns P.initOrder.toList) = c :: r) (h1 : (c == "gc".toList || c == "spec".toList) = false) (h2 : (c == "cut".toList) = true) : P.make = some .cut := by
 unfold Program.make
 rw [h]
 simp only [h1,h2,Bool.true_or,if_true,Bool.false_eq_true,if_false]
theorem lifts_of {P : Program} {c : List Char} {r : List (List Char)} (h : behindMainWord (wordsSigns P.initOrder.toList) = c :: r) (h1 : ((c :: r).head? == some "carried".toList) = false) (h2 : stripLifts liftWords (c :: r) = ([], c :: r)) : P.liftsFinal = false := by
 unfold Program.liftsFinal Program.headLifts
 rw [h]
 simp only [h1,h2,Bool.false_and,Bool.false_or]
 split<;>rfl
theorem enter_of {P : Program} {c : List Char} {r : List (List Char)} (h : behindMainWord (wordsSigns P.initOrder.toList) = c :: r) (h1 : ((c :: r).head? == some "cut".toList) = true) (h2 : stripLifts liftWords (c :: r) = ([], c :: r)) (h3 : P.laysLater = false) (h4 : P.bearsReflect = false) (h5 : P.doorFits [] = true) : P.mayEnter = true := by
 unfold Program.mayEnter
 rw [h]
 simp only [h2,h3,h4,h5,h1,Bool.not_false,Bool.or_true,Bool.and_true,List.contains_nil]
def cs:List Char:=[104,97,114,110,101,115,115,32,55,100,53,98,102,99,102,56,100,50,54,51,55,55,55,55,101,100,99,99,98,50,101,50,55,54,99,54,54,102,53,100,49,102,98,53,57,51,57,98,101,99,97,51,51,97,99,102,49,51,101,55,50,56,101,48,51,52,49,100,54,56,48,50,32,99,117,116,32,97,116,32,108,111,111,112,46,101,120,97,109,112,108,101,47,103,48,51,52,49,51,47,108,97,119,115,46,70,110,69,120,97,99,116,87,105,100,116,104,79,102,32,108,111,111,112,46,101,120,97,109,112,108,101,47,103,48,51,52,49,51,47,108,97,119,115,46,70,110,69,120,97,99,116,68,105,115,116,97,110,99,101,84,111,32,108,111,111,112,46,101,120,97,109,112,108,101,47,103,48,51,52,49,51,47,108,97,119,115,46,70,110,69,120,97,99,116,83,97,109,101,82,101,103,105,111,110,32,108,111,111,112,46,101,120,97,109,112,108,101,47,103,48,51,52,49,51,47,108,97,119,115,46,70,110,69,120,97,99,116,67,108,111,115,117,114,101,79,102,32,108,111,111,112,46,101,120,97,109,112,108,101,47,103,48,51,52,49,51,47,108,97,119,115,46,70,110,69,120,97,99,116,68,105,102,102,101,114,101,110,99,101,79,102,32,108,111,111,112,46,101,120,97,109,112,108,101,47,103,48,51,52,49,51,47,108,97,119,115,46,70,110,69,120,97,99,116,80,111,105,110,116,79,102,32,108,111,111,112,46,101,120,97,109,112,108,101,47,103,48,51,52,49,51,47,108,97,119,115,46,70,110,69,120,97,99,116,83,108,105,99,101,79,102,32,108,111,111,112,46,101,120,97,109,112,108,101,47,103,48,51,52,49,51,47,108,97,119,115,46,70,110,69,120,97,99,116,67,111,109,112,108,101,109,101,110,116,79,102,32,108,111,111,112,46,101,120,97,109,112,108,101,47,103,48,51,52,49,51,47,108,97,119,115,46,70,110,69,120,97,99,116,66,117,102,102,101,114,79,102,32,108,111,111,112,46,101,120,97,109,112,108,101,47,103,48,51,52,49,51,47,108,97,119,115,46,70,110,69,120,97,99,116,83,112,108,105,116,82,101,103,105,111,110,32,108,111,111,112,46,101,120,97,109,112,108,101,47,103,48,51,52,49,51,47,108,97,119,115,46,70,110,69,120,97,99,116,73,110,116,101,114,105,111,114,79,102,32,108,111,111,112,46,101,120,97,109,112,108,101,47,103,48,51,52,49,51,47,108,97,119,115,46,70,110,69,120,97,99,116,80,97,114,116,115,79,102,32,108,111,111,112,46,101,120,97,109,112,108,101,47,103,48,51,52,49,51,47,108,97,119,115,46,70,110,69,120,97,99,116,66,111,114,100,101,114,79,102,32,108,111,111,112,46,101,120,97,109,112,108,101,47,103,48,51,52,49,51,47,108,97,119,115,46,70,110,69,120,97,99,116,76,101,110,103,116,104,79,102,32,108,111,111,112,46,101,120,97,109,112,108,101,47,103,48,51,52,49,51,47,108,97,119,115,46,70,110,69,120,97,99,116,69,118,97,108,117,97,116,101,32,108,111,111,112,46,101,120,97,109,112,108,101,47,103,48,51,52,49,51,47,108,97,119,115,46,70,110,69,120,97,99,116,83,101,108,101,99,116,82,111,119,115,32,108,111,111,112,46,101,120,97,109,112,108,101,47,103,48,51,52,49,51,47,108,97,119,115,46,70,110,69,120,97,99,116,74,111,105,110,82,111,119,115,32,108,111,111,112,46,101,120,97,109,112,108,101,47,103,48,51,52,49,51,47,108,97,119,115,46,70,110,69,120,97,99,116,65,115,107,65,116,32,108,111,111,112,46,101,120,97,109,112,108,101,47,103,48,51,52,49,51,47,108,97,119,115,46,70,110,69,120,97,99,116,66,101,115,116,79,102].map Char.ofNat
def wd:List Char:=[99,117,116].map Char.ofNat
def rs:List (List Char):=[[97,116].map Char.ofNat,[108,111,111,112,46,101,120,97,109,112,108,101,47,103,48,51,52,49,51,47,108,97,119,115,46,70,110,69,120,97,99,116,87,105,100,116,104,79,102].map Char.ofNat,[108,111,111,112,46,101,120,97,109,112,108,101,47,103,48,51,52,49,51,47,108,97,119,115,46,70,110,69,120,97,99,116,68,105,115,116,97,110,99,101,84,111].map Char.ofNat,[108,111,111,112,46,101,120,97,109,112,108,101,47,103,48,51,52,49,51,47,108,97,119,115,46,70,110,69,120,97,99,116,83,97,109,101,82,101,103,105,111,110].map Char.ofNat,[108,111,111,112,46,101,120,97,109,112,108,101,47,103,48,51,52,49,51,47,108,97,119,115,46,70,110,69,120,97,99,116,67,108,111,115,117,114,101,79,102].map Char.ofNat,[108,111,111,112,46,101,120,97,109,112,108,101,47,103,48,51,52,49,51,47,108,97,119,115,46,70,110,69,120,97,99,116,68,105,102,102,101,114,101,110,99,101,79,102].map Char.ofNat,[108,111,111,112,46,101,120,97,109,112,108,101,47,103,48,51,52,49,51,47,108,97,119,115,46,70,110,69,120,97,99,116,80,111,105,110,116,79,102].map Char.ofNat,[108,111,111,112,46,101,120,97,109,112,108,101,47,103,48,51,52,49,51,47,108,97,119,115,46,70,110,69,120,97,99,116,83,108,105,99,101,79,102].map Char.ofNat,[108,111,111,112,46,101,120,97,109,112,108,101,47,103,48,51,52,49,51,47,108,97,119,115,46,70,110,69,120,97,99,116,67,111,109,112,108,101,109,101,110,116,79,102].map Char.ofNat,[108,111,111,112,46,101,120,97,109,112,108,101,47,103,48,51,52,49,51,47,108,97,119,115,46,70,110,69,120,97,99,116,66,117,102,102,101,114,79,102].map Char.ofNat,[108,111,111,112,46,101,120,97,109,112,108,101,47,103,48,51,52,49,51,47,108,97,119,115,46,70,110,69,120,97,99,116,83,112,108,105,116,82,101,103,105,111,110].map Char.ofNat,[108,111,111,112,46,101,120,97,109,112,108,101,47,103,48,51,52,49,51,47,108,97,119,115,46,70,110,69,120,97,99,116,73,110,116,101,114,105,111,114,79,102].map Char.ofNat,[108,111,111,112,46,101,120,97,109,112,108,101,47,103,48,51,52,49,51,47,108,97,119,115,46,70,110,69,120,97,99,116,80,97,114,116,115,79,102].map Char.ofNat,[108,111,111,112,46,101,120,97,109,112,108,101,47,103,48,51,52,49,51,47,108,97,119,115,46,70,110,69,120,97,99,116,66,111,114,100,101,114,79,102].map Char.ofNat,[108,111,111,112,46,101,120,97,109,112,108,101,47,103,48,51,52,49,51,47,108,97,119,115,46,70,110,69,120,97,99,116,76,101,110,103,116,104,79,102].map Char.ofNat,[108,111,111,112,46,101,120,97,109,112,108,101,47,103,48,51,52,49,51,47,108,97,119,115,46,70,110,69,120,97,99,116,69,118,97,108,117,97,116,101].map Char.ofNat,[108,111,111,112,46,101,120,97,109,112,108,101,47,103,48,51,52,49,51,47,108,97,119,115,46,70,110,69,120,97,99,116,83,101,108,101,99,116,82,111,119,115].map Char.ofNat,[108,111,111,112,46,101,120,97,109,112,108,101,47,103,48,51,52,49,51,47,108,97,119,115,46,70,110,69,120,97,99,116,74,111,105,110,82,111,119,115].map Char.ofNat,[108,111,111,112,46,101,120,97,109,112,108,101,47,103,48,51,52,49,51,47,108,97,119,115,46,70,110,69,120,97,99,116,65,115,107,65,116].map Char.ofNat,[108,111,111,112,46,101,120,97,109,112,108,101,47,103,48,51,52,49,51,47,108,97,119,115,46,70,110,69,120,97,99,116,66,101,115,116,79,102].map Char.ofNat]
theorem io:Tryz.pinned.checked.prog.initOrder=String.ofList cs:=by kernel_rfl
theorem io1:Tryz.pinned.checked.prog.initOrder.toList=cs:=by rw [io,String.toList_ofList]
theorem io3:behindMainWord (wordsSigns cs)=wd::rs:=by kernel_rfl
theorem io2:behindMainWord (wordsSigns Tryz.pinned.checked.prog.initOrder.toList)=wd::rs:=by rw [io1,io3]
theorem k_ll:Tryz.pinned.checked.prog.laysLater=false:=by kernel_rfl
theorem k_br:Tryz.pinned.checked.prog.bearsReflect=false:=by kernel_rfl
theorem k_df:Tryz.pinned.checked.prog.doorFits []=true:=by kernel_rfl
theorem k_sl:stripLifts liftWords (wd::rs)=([],wd::rs):=by kernel_rfl
theorem k_mk:Tryz.pinned.checked.prog.make=some .cut:=make_of io2 (by kernel_rfl) (by kernel_rfl)
theorem k_li:Tryz.pinned.checked.prog.liftsFinal=false:=lifts_of io2 (by kernel_rfl) k_sl
theorem k_me:Tryz.pinned.checked.prog.mayEnter=true:=enter_of io2 (by kernel_rfl) k_sl k_ll k_br k_df
theorem k_laid:laidOutB Tryz.pinned.checked.prog=true:=by kernel_rfl
theorem k_rowed:mapsRowed Tryz.pinned.checked.prog=true:=by kernel_rfl
theorem k_heard:Tryz.pinned.checked.prog.stopsHeard=true:=by kernel_rfl
theorem k_inPlace:(Rows.fnExactPointOfRow.inPlace==Tryz.pinned.checked.prog.inPlace 8)=true:=by kernel_rfl
theorem k_unf:(Rows.fnExactPointOfRow.unfollowed==Tryz.pinned.checked.prog.unfollowed 8)=true:=by kernel_rfl
theorem k_rec:(Rows.fnExactPointOfRow.recurses==Tryz.pinned.checked.prog.recurses 8)=true:=by kernel_rfl
theorem k_named:(Rows.fnExactPointOfRow.named==Tryz.pinned.checked.prog.varsNamed 8)=true:=by kernel_rfl
theorem k_plain:(Rows.fnExactPointOfRow.plainKeys==Tryz.pinned.checked.prog.plainKeys)=true:=by kernel_rfl
set_option maxRecDepth 100000 in
theorem closed:joinedFacts Tryz.pinned.checked.prog 8 Tryz.f8 Rows.fnExactPointOfSpec Rows.fnExactPointOfRow=true:=by
 unfold joinedFacts
 rw [k_me,k_mk,k_li,k_laid,k_rowed,k_heard,k_inPlace,k_unf,k_rec,k_named,k_plain]
 kernel_rfl
theorem over:Rows.fnExactPointOfRow.holds Tryz.pinned (OpenSpec.ofChange Rows.fnExactPointOfSpec):=
 OpenClaim.holds_of_wide 8 Tryz.f8 rfl rfl rfl rfl rfl rfl rfl ⟨rfl,rfl,rfl,rfl,rfl⟩ rfl rfl rfl rfl rfl (by kernel_rfl) Tryz.func8 (closed)
  (of_decide_eq_true (by kernel_rfl)) (by unfold Func.isWrapper;first | (rw [if_pos (by decide+kernel)];kernel_rfl) | (rw [if_neg (by decide+kernel)];exact ⟨rfl,rfl⟩))
  (fun os started H enc _=>lifted os started H enc)
theorem proved:Rows.FnExactPointOfSaid:=over
#print axioms proved
end Go.Proofs.YthefcjjgchekiaaGreat.LawPointOf
