/- Minimal cells: what the functions compute. -/
import Derived.Test.YtlhkmndfkjlodaaE4
set_option linter.unusedSimpArgs false
set_option linter.unusedVariables false
namespace Go.T
open Go Go.Proofs
set_option maxHeartbeats 4000000
set_option maxRecDepth 100000
theorem qKX (c:Val Y26) (h:qeh c): ∃N,qnM N c=some (cpC c,()):=⟨List.length (α:=Val Y83) c.2+1,by
 obtain ⟨d,xs⟩:=c
 change Int at d
 change List (Val Y83)at xs
 obtain ⟨-,h1,h2⟩:=h
 replace h1:xs.length≤1048576:=h1
 rw [qnM,cpC]
 refine (q4 (F:=fun n i s=>qd4 _ d xs 0 d _ n i s) (step:=fun _ x s K=>chk (s.length+[x].length≤1048576) (K (s++[x]))) (k:=fun s=>some ((d,s),())) h1 (fun n i s hi=> ?_) (fun n i s hi=> ?_) _ [] (Nat.lt_succ_self _)).trans ?_
 ·rw [qd4,qi (by omega),qd (by omega),qB hi,qd (show qb2 _ from (h2 _ (List.getElem_mem hi)).1.1)]
  rfl
 ·rw [qd4,qj (by omega)]
 ·exact (qm2 (f:=fun x=>x) xs 0 [] (by simpa using h1)).trans (by simp)⟩
theorem qIQ:Sound Try.prog 107 qnq:=qq (tt:=tt) (Γ:=qfT) hT (qe qHc qp) hm (fn:=Try.f107) Try.func107 (c:=Try.f107.body.getD .skip) (by kernel_rfl) (by kernel_rfl) fun x hx=>by
 obtain ⟨N,h⟩:=qKX x.1 hx
 exact ⟨qbh N,qMX,qm _,qOP N,(qLW N x.1).trans h⟩
theorem qKk {d:Int} {l:List (Val Y83)} (h: ∀a∈l,okD d a) (hl:l.length≤1048576):Bd Y26 ((d,l):Val Y26):=
 ⟨trivial,hl,fun a ha=>⟨⟨by have:=(qwc (h a ha).1).1;show List.length (α:=Int) a.1≤1048576;omega,fun _ _=>trivial⟩,trivial,trivial⟩⟩
end Go.T
