/- Atoms of numbers; cells' bounds. -/
import Derived.Test.YtlhkmndfkjlodaaA2
import Derived.Test.YtlhkmndfkjlodaaA3
set_option linter.unusedSimpArgs false
set_option linter.unusedVariables false
namespace Go.T
open Go Go.Proofs
set_option maxHeartbeats 4000000
set_option maxRecDepth 100000
theorem qDq {ρ α β:Type} {f:α→β} {k:List β→Option ρ}: ∀(xs:List α) (i:Nat) (s:List β),s.length+xs.length≤1048576→qcb (fun _ x (s:List β) K=>chk (s.length+[f x].length≤1048576) (K (s++[f x]))) i xs s k=k (s++xs.map f)
 | [],_,s,_=>by rw [qcb];simp
 | x::xs,i,s,h=>by
   simp only [List.length_cons]at h
   rw [qcb,qd (by simp;omega)];dsimp only;rw [qDq xs (i+1) _ (by simp;omega)]
   simp
theorem qAz {a:Val Y83} (h:qai a=true):(List.length (α:=Int) a.1≤4)∧inI a.2.1∧ ∀x∈(a.1:List Int), -400000000≤x∧x≤400000000:=by
 unfold qai at h
 simp only [Bool.and_eq_true,decide_eq_true_eq]at h
 obtain ⟨⟨⟨h1,h2⟩,h3⟩,_⟩:=h
 exact ⟨h1,qkP h2,fun x hx=>of_decide_eq_true (List.all_eq_true.1 h3 x hx)⟩
end Go.T
