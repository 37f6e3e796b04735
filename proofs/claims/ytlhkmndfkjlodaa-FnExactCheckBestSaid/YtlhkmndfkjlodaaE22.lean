/- Closures: what the functions compute. -/
import Derived.Test.YtlhkmndfkjlodaaE21
set_option linter.unusedSimpArgs false
set_option linter.unusedVariables false
namespace Go.T
open Go Go.Proofs
set_option maxHeartbeats 4000000
set_option maxRecDepth 100000
theorem qRS (c:Val Y26) (h:qeh c): ∃N,qnE N c=some (cpC c,()):=⟨List.length (α:=Val Y83) c.2+1,by
 obtain ⟨d,xs⟩:=c
 change Int at d
 change List (Val Y83)at xs
 obtain ⟨-,h1,h2⟩:=h
 replace h1:xs.length≤1048576:=h1
 rw [qnE,cpC,qd (by show 0≤(0:Int)∧(0:Int)≤(xs.length:Int)∧(xs.length:Int)≤1048576;omega)]
 refine (q4 (F:=fun n i s=>qdz _ xs xs.length 0 d _ n i s) (step:=fun _ x s K=>chk (s.length+[x].length≤1048576) (K (s++[x]))) (k:=fun s=>some ((d,s),())) h1 (fun n i s hi=> ?_) (fun n i s hi=> ?_) _ [] (Nat.lt_succ_self _)).trans ?_
 ·rw [qdz,qi (by omega),qd (by omega),qB hi,qd (show qb2 _ from (h2 _ (List.getElem_mem hi)).1.1)]
  rfl
 ·rw [qdz,qj (by omega)]
 ·exact (qm2 (f:=fun x=>x) xs 0 [] (by simpa using h1)).trans (by simp)⟩
theorem qJ0:Sound Try.prog 111 qfM:=qq (tt:=tt) (Γ:=qgp) hT (qe qFc qp) hm (fn:=Try.f111) Try.func111 (c:=Try.f111.body.getD .skip) (by kernel_rfl) (by kernel_rfl) fun x hx=>by
 obtain ⟨N,h⟩:=qRS x.1 hx
 exact ⟨qbg N,qFz,qm _,qGp N,(qGs N x.1).trans h⟩
theorem qPE {c:Val Y26} (h:qS c=true):Bd Y26 c:=by
 obtain ⟨h1,h2,h3⟩:=qcd h
 obtain ⟨d,l⟩:=c
 exact qKk (d:=d) h3 (by have:List.length (α:=Val Y83) l≤16:=h2;omega)
end Go.T
