/-
  The law of NegationNormal: for every input the program's NegationNormal returns what the reference's returns, shares no memory with its arguments or with another call's result (the law returns true), and the arguments read as before. No condition.
-/
import Derived.Test.YtlhkmndfkjlodaaN6
import Derived.Test.YtlhkmndfkjlodaaRows
import Derived.WalkKit
import Derived.ProofKit
import Derived.OpenShut
import Derived.ShutString
import Derived.ChangeOld
import Derived.Below
set_option linter.unusedSimpArgs false
set_option linter.unusedVariables false
namespace Go.Proofs.Ytlhkmndfkjlodaa.LawNegationNormal
open Go.T
open Go.ChangeShapes Go.WideShapes Go.ChangeAt Go.RowKit
open Go.ChangeMaps (open_string shut_string)
set_option linter.unusedVariables false
theorem own:ownKnob Try.prog.godebug=none:=by kernel_rfl
theorem laidOut:laidOutB Try.prog=true:=by kernel_rfl
set_option maxRecDepth 100000 in
theorem lifted (os:Os) (started:os.Started) (H:Type) (enc:TypeId×Value→H):
 ReturnsInHanded {} Try.checked os 6 .any (Rows.fnExactNegationNormalSpec.pre6 enc Try.prog Try.f6 Rows.fnExactNegationNormalRow.domain false) (Rows.fnExactNegationNormalSpec.post enc Try.prog Try.f6 false true false false):=by
 refine returnsInHanded_of_change (C:=Try.checked) own started (by kernel_rfl) Try.func6
  (ChangeSpec.witness6 (enc:=enc) (C:=Try.checked) false ⟨#[], #[.slice none 0 0,.slice none 0 0],[]⟩ 8 (by kernel_rfl) (by kernel_rfl) (by kernel_rfl) (by kernel_rfl)) ?_
 intro W base args ds gs before hval0 hW hcnd _
 have hval: ∀(j:Nat) t v,Try.f6.params[j]?=some t→args[j]?=some v→Value.okWide Try.prog W .any base t v:=hval0
 have hW':=hW
 obtain ⟨p,q,hA0,hV,rfl,hfz,hnd⟩:=hW
 have hA:DataW.TrodAll enc Try.prog W 0 (fun _=>true) true Try.f6.params.toList args.toList ds p:=hA0
 rw [Try.params6]at hA hval
 obtain ⟨v0,vs0,d0,ds0,p0,q0,hargs,rfl,rfl,h0,r0⟩:=trodAll_cons hA
 obtain ⟨v1,vs1,d1,ds1,p1,q1,rfl,rfl,rfl,h1,r1⟩:=trodAll_cons r0
 obtain ⟨rfl,rfl,rfl⟩:=trodAll_nil r1
 obtain rfl:args= #[v0,v1]:=by cases args;simp_all
 obtain ⟨rfl,rfl⟩:=trodVars_none hV
 have lt0: ∀x∈p0,x.block<W.heap.size:=by obtain ⟨m,hm⟩:=h0;exact DataW.trod_lt m _ _ _ hm
 have lt1: ∀x∈p1,x.block<W.heap.size:=by obtain ⟨m,hm⟩:=h1;exact DataW.trod_lt m _ _ _ hm
 obtain ⟨x0,c0,k0,w0,s0⟩:=qIg (n:=40) (ti:=i57) (by kernel_rfl) (by kernel_rfl) (hval 0 57 v0 rfl rfl) h0
 obtain ⟨x1,c1,k1,w1,s1⟩:=qIg (n:=40) (ti:=i58) (by kernel_rfl) (by kernel_rfl) (hval 1 58 v1 rfl rfl) h1
 clear hA0 hval0
 refine (s6.runs (x0,x1,()) ⟨s0,s1,trivial⟩ W (fun _=>True) #[v0,v1] ⟨v0,[v1],c0,rfl,k0,w0,v1,[],c1,rfl,k1,w1,rfl⟩ (fun _ _=>trivial)).mono fun e W' he=> ?_
 obtain ⟨us,rfl,hfr,B,⟨u,rest,cs,B1,B2,rfl,rfl,hM,hw,rfl,rfl⟩,_⟩:=he
 obtain ⟨rfl,rfl⟩:=hM
 simp only [qav]at hw
 obtain rfl:u= .bool true:=(List.cons.inj hw).1.symm
 have bel:Below W.heap.size W W':=⟨hfr.os,hfr.tape,hfr.output,hfr.size,fun k hk=>hfr.block k hk (fun h=>h)⟩
 exact ⟨_,rfl,_,_,_,[],_,[],hW',trodAll_mk1 (shut_bool Try.underlying4 _),
  (trodAll_cons_mk (Below.trod laidOut (by kernel_rfl) (of_decide_eq_true (by kernel_rfl)) h0 bel lt0) (trodAll_cons_mk (Below.trod laidOut (by kernel_rfl) (of_decide_eq_true (by kernel_rfl)) h1 bel lt1) trodAll_mk0)),rfl,bel.frame _,fun h=>by cases h⟩
theorem over:Rows.fnExactNegationNormalRow.holds Try.pinned (OpenSpec.ofChange Rows.fnExactNegationNormalSpec):=
 OpenClaim.holds_of_wide 6 Try.f6 rfl rfl rfl rfl rfl rfl rfl ⟨rfl,rfl,rfl,rfl,rfl⟩ rfl rfl rfl rfl rfl (by kernel_rfl) Try.func6 (by kernel_rfl)
  (of_decide_eq_true (by kernel_rfl)) (by unfold Func.isWrapper;first | (rw [if_pos (by decide+kernel)];kernel_rfl) | (rw [if_neg (by decide+kernel)];exact ⟨rfl,rfl⟩))
  (fun os started H enc _=>lifted os started H enc)
theorem proved:Rows.FnExactNegationNormalSaid:=over
#print axioms proved
end Go.Proofs.Ytlhkmndfkjlodaa.LawNegationNormal
