/- Mapped regions are small. -/
import Derived.Test.YthefcjjgchekiaaGreatE9
set_option linter.unusedSimpArgs false
set_option linter.unusedVariables false
namespace Go.T
open Go Go.Proofs
set_option maxHeartbeats 4000000
set_option maxRecDepth 100000
theorem qQQ (f:qb [i33]→qb [i33,i4]): ∀(cs:List (Val Y33)) (r:Val Y50),(List.length (α:=Val Y33) r.2+cs.length≤12∧ ∀c∈(r.2:List (Val Y33)),qD c=true)→List.length (α:=Val Y33) (qbt f cs r).1.2≤12∧ ∀c∈((qbt f cs r).1.2:List (Val Y33)),qD c=true
 | [],r,h=>⟨by have:=h.1;simp at this;exact this,h.2⟩
 | c::cs,r,h=>by
   have h1:=h.1
   rw [List.length_cons]at h1
   simp only [qbt]
   cases (f (c,())).2.1 with
   | false=>exact ⟨Nat.zero_le _,fun c hc=>by cases hc⟩
   | true=>
     simp only [cond_true]
     have hl:=qCL r (f (c,())).1
     have hm:= @qTD (f (c,())).1
     have hc2: ∀x∈((qbb r (f (c,())).1).1.2:List (Val Y33)),qD x=true:=by
        unfold qbb
        cases h2:(qam (f (c,())).1).2 with
        | false=>exact h.2
        | true=>
          cases qb1 (qam (f (c,())).1).1 with
          | true=>exact h.2
          | false=>
            cases decide (12≤(List.length (α:=Val Y33) r.2:Int))with
            | true=>exact h.2
            | false=>
              intro x hx
              rcases List.mem_append.1 (show x∈(r.2:List (Val Y33))++[(qam (f (c,())).1).1] from hx)with hx | hx
              ·exact h.2 x hx
              ·obtain rfl:=List.mem_singleton.1 hx
               exact (hm h2).2.1
     cases (qbb r (f (c,())).1).2 with
     | false=>exact ⟨Nat.zero_le _,fun c hc=>by cases hc⟩
     | true=>exact qQQ f cs _ ⟨by omega,hc2⟩
end Go.T
