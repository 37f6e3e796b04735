/- Complements of regions. -/
import Derived.Test.YthefcjjgchekiaaGreatE13
set_option linter.unusedSimpArgs false
set_option linter.unusedVariables false
namespace Go.T
open Go Go.Proofs
set_option maxHeartbeats 4000000
set_option maxRecDepth 100000
def qaM (c : Val Y33) : Val Y50 := (c.1, [c])
def qfr : G := { ps := [i33], rs := [i50], dp := false, pre := fun _ => True, fn := fun x => (qaM x.1, ()) }
noncomputable def qO5 (N : Nat) (v0 : Val Y33) : Option (qb [i50]) := some (((v0.1 : Int), ([v0] : List (Val Y33))), ())
def qUg : Gam := []
def qzk : Nat → Tree := fun _ => .done
def qCb : Nat → Nm := fun _ => ⟨[], [], false⟩
def qD0 : Nat → Option Jn := fun _ => none
def qKK : Nat → Option Nm := fun _ => none
def qCw : Nat → Option Nm := fun _ => none
theorem q81 : qj qzk (Tryz.f148.body.getD .skip) = true := by kernel_rfl
def qdU (N : Nat) : Tab := { tr := qzk, lp := qCb, ex := qKK, rg := qCw, jn := qD0, fuel := N }
theorem qZ0 (N : Nat) : (qdU N).pins = false := rfl
theorem qXl (N : Nat) : qk Tryz.prog (qdU N) := qp fun _ => rfl
theorem q57 (N : Nat) (i : Nat) : (qdU N).tr i = qzk i := rfl
theorem zdw (N : Nat) (i : Nat) : (qdU N).lp i = qCb i := rfl
theorem zcd (N : Nat) (i : Nat) : (qdU N).ex i = qKK i := rfl
theorem q0P (N : Nat) (i : Nat) : (qdU N).rg i = qCw i := rfl
theorem zbQ (N : Nat) (i : Nat) : (qdU N).jn i = qD0 i := rfl
theorem zdX (N : Nat) : (qdU N).fuel = N := rfl
theorem qZb (N : Nat) (v0 : Val Y33) : qf tt qUg (qdU N) (Tryz.f148.body.getD .skip) (qm tt false [i50] [.cell 2 50]) (qq [i33] 8 (v0, ())) = qO5 N v0 := by
  rw [qO5]; unfold Tryz.f148
  simp (maxSteps := 10000000) -implicitDefEqProofs [q57, qzk, zdw, qCb, zcd, qKK, q0P, qCw, zbQ, qD0, zdX, qZ0]
  try rfl
def qeG (d : Int) : Val Y50 := (d, [((d, []) : Val Y33)])
def qvl : G := { ps := [i3], rs := [i50], dp := true, pre := fun _ => True, fn := fun x => (qeG x.1, ()) }
noncomputable def qCN (N : Nat) (v0 : Int) : Option (qb [i50]) := some ((v0, ([(v0, ([] : List (Val qa)))] : List (Val Y33))), ())
def qSo : Gam := []
def qvw : Nat → Tree := fun _ => .done
def qHq : Nat → Nm := fun _ => ⟨[], [], false⟩
def qHH : Nat → Option Jn := fun _ => none
def qMz : Nat → Option Nm := fun _ => none
def qCh : Nat → Option Nm := fun _ => none
theorem qWw : qj qvw (Tryz.f147.body.getD .skip) = true := by kernel_rfl
def qdP (N : Nat) : Tab := { tr := qvw, lp := qHq, ex := qMz, rg := qCh, jn := qHH, fuel := N }
theorem qYL (N : Nat) : (qdP N).pins = false := rfl
theorem q0G (N : Nat) : qk Tryz.prog (qdP N) := qp fun _ => rfl
theorem q9F (N : Nat) (i : Nat) : (qdP N).tr i = qvw i := rfl
theorem q23 (N : Nat) (i : Nat) : (qdP N).lp i = qHq i := rfl
theorem zap (N : Nat) (i : Nat) : (qdP N).ex i = qMz i := rfl
theorem q0M (N : Nat) (i : Nat) : (qdP N).rg i = qCh i := rfl
theorem zdg (N : Nat) (i : Nat) : (qdP N).jn i = qHH i := rfl
theorem zeQ (N : Nat) : (qdP N).fuel = N := rfl
theorem q5J (N : Nat) (v0 : Int) : qf tt qSo (qdP N) (Tryz.f147.body.getD .skip) (qm tt true [i50] [.cell 2 50]) (qq [i3] 8 (v0, ())) = qCN N v0 := by
  rw [qCN]; unfold Tryz.f147
  simp (maxSteps := 10000000) -implicitDefEqProofs [q9F, qvw, q23, qHq, zap, qMz, q0M, qCh, zdg, qHH, zeQ, qYL]
  try rfl
def qT (r : Val Y50) : Val Y50 × Bool := bif qV r then qx (qeG r.1) r else qaR
def qzR (r : Val Y50) : Prop := qbH r
def g54 : G := { ps := [i50], rs := [i50, i4], dp := true, pre := fun _ => True, fn := fun x => ((qT x.1).1, (qT x.1).2, ()) }
noncomputable def m54 (N : Nat) (v0 : Val Y50) : Option (qb [i50, i4]) := bif (!((qV v0) : Bool)) then (some (((0 : Int), ([] : List (Val Y33))), false, ())) else (some (((((qx (qaM ((v0.1 : Int), ([] : List (Val qa)))) v0).1).1 : Int), (((qx (qaM ((v0.1 : Int), ([] : List (Val qa)))) v0).1).2 : List (Val Y33))), ((qx (qaM ((v0.1 : Int), ([] : List (Val qa)))) v0).2 : Bool), ()))
def Γ54 : Gam := [(45, g45), (124, qbC), (148, qfr)]
theorem q8j : Gam.get Γ54 45 = some g45 := rfl
theorem q25 : Gam.get Γ54 124 = some qbC := rfl
theorem zbF : Gam.get Γ54 148 = some qfr := rfl
def qwk : Nm := ⟨[false, false, true, true], [], false⟩
theorem q3F : qwk.zero = false := rfl
theorem qZl : qwk.fix = [] := rfl
theorem qVC : qwk.keep = [false, false, true, true] := rfl
def qyE : Nat → Tree := fun i => if i = 3 then .quiet 0 (.quiet 1 (.quiet 2 (.alt 3 (.quiet 4 (.alt 5 (.quiet 6 (.quiet 7 (.alt 8 (.quiet 9 .done) .stop))) .stop)) (.alt 4 (.alt 3 (.alt 5 (.quiet 6 (.quiet 7 (.alt 8 (.quiet 9 .done) .stop))) .stop) .stop) .stop)))) else .done
def qLo : Nat → Nm := fun _ => ⟨[], [], false⟩
def qDP : Nat → Option Jn := fun _ => none
def qKu : Nat → Option Nm := fun _ => none
def qJ9 : Nat → Option Nm := fun i => if i = 3 then some qwk else none
theorem p54 : qj qyE (Tryz.f54.body.getD .skip) = true := by kernel_rfl
def T54 (N : Nat) : Tab := { tr := qyE, lp := qLo, ex := qKu, rg := qJ9, jn := qDP, fuel := N }
theorem qZv (N : Nat) : (T54 N).pins = false := rfl
theorem qZA (N : Nat) : qk Tryz.prog (T54 N) := qp fun _ => rfl
theorem zdj (N : Nat) (i : Nat) : (T54 N).tr i = qyE i := rfl
theorem q2z (N : Nat) (i : Nat) : (T54 N).lp i = qLo i := rfl
theorem zac (N : Nat) (i : Nat) : (T54 N).ex i = qKu i := rfl
theorem qZT (N : Nat) (i : Nat) : (T54 N).rg i = qJ9 i := rfl
theorem qZi (N : Nat) (i : Nat) : (T54 N).jn i = qDP i := rfl
theorem q8u (N : Nat) : (T54 N).fuel = N := rfl
theorem q3l (N : Nat) (v0 : Val Y50) : qf tt Γ54 (T54 N) (Tryz.f54.body.getD .skip) (qm tt true [i50, i4] [.cell 2 50, .tmp 3]) (qq [i50] 16 (v0, ())) = m54 N v0 := by
  rw [m54]; unfold Tryz.f54
  simp (maxSteps := 10000000) -implicitDefEqProofs [zdj, qyE, q2z, qLo, zac, qKu, qZT, qJ9, qZi, qDP, q8u, qZv, qZl, qVC, q3F, q8j, q25, zbF, g45, qbC, qfr]
  try rfl
def g53 : G := { ps := [i50], rs := [i50, i4], dp := false, pre := fun x => qzR x.1, fn := fun x => ((qT x.1).1, (qT x.1).2, ()) }
noncomputable def m53 (N : Nat) (v0 : Val Y50) : Option (qb [i50, i4]) := chk (qbH v0) (bif (!((qV v0) : Bool)) then (some (((0 : Int), ([] : List (Val Y33))), false, ())) else (chk (qdh (((qeG (v0.1 : Int)).1 : Int), ((qeG (v0.1 : Int)).2 : List (Val Y33))) v0) (some ((qx (((qeG (v0.1 : Int)).1 : Int), ((qeG (v0.1 : Int)).2 : List (Val Y33))) v0).1, ((qx (((qeG (v0.1 : Int)).1 : Int), ((qeG (v0.1 : Int)).2 : List (Val Y33))) v0).2 : Bool), ()))))
def Γ53 : Gam := [(44, g44), (117, qbc), (147, qvl)]
theorem qYs : Gam.get Γ53 44 = some g44 := rfl
theorem zcO : Gam.get Γ53 117 = some qbc := rfl
theorem zbU : Gam.get Γ53 147 = some qvl := rfl
def qwE : Nm := ⟨[false, false, true, false, true, true], [], false⟩
theorem q62 : qwE.zero = false := rfl
theorem q86 : qwE.fix = [] := rfl
theorem q5i : qwE.keep = [false, false, true, false, true, true] := rfl
def qwy : Nat → Tree := fun i => if i = 3 then .grow 0 (.grow 1 (.alt 2 (.grow 3 (.alt 4 (.first 5 (.first 6 (.first 7 (.alt 8 (.alt 9 (.quiet 10 .done) .stop) .stop)))) (.alt 8 (.alt 4 (.quiet 5 (.quiet 6 (.first 7 (.alt 9 (.quiet 10 .done) .stop)))) .stop) .stop))) (.alt 3 (.alt 2 (.alt 4 (.first 5 (.first 6 (.first 7 (.alt 8 (.alt 9 (.quiet 10 .done) .stop) .stop)))) (.alt 8 (.alt 4 (.quiet 5 (.quiet 6 (.first 7 (.alt 9 (.quiet 10 .done) .stop)))) .stop) .stop)) (.alt 8 (.alt 2 (.alt 4 (.quiet 5 (.quiet 6 (.first 7 (.alt 9 (.quiet 10 .done) .stop)))) .stop) .stop) .stop)) (.alt 8 (.alt 2 (.quiet 3 (.alt 4 (.quiet 5 (.quiet 6 (.first 7 (.alt 9 (.quiet 10 .done) .stop)))) .stop)) (.alt 3 (.alt 2 (.alt 4 (.quiet 5 (.quiet 6 (.first 7 (.alt 9 (.quiet 10 .done) .stop)))) .stop) .stop) .stop)) .stop)))) else .done
def qEN : Nat → Nm := fun _ => ⟨[], [], false⟩
def qFl : Nat → Option Jn := fun _ => none
def qPo : Nat → Option Nm := fun _ => none
def qKX : Nat → Option Nm := fun i => if i = 3 then some qwE else none
theorem p53 : qj qwy (Tryz.f53.body.getD .skip) = true := by kernel_rfl
def T53 (N : Nat) : Tab := { tr := qwy, lp := qEN, ex := qPo, rg := qKX, jn := qFl, fuel := N }
theorem q7N (N : Nat) : (T53 N).pins = false := rfl
theorem zdL (N : Nat) : qk Tryz.prog (T53 N) := qp fun _ => rfl
theorem zdm (N : Nat) (i : Nat) : (T53 N).tr i = qwy i := rfl
theorem zfs (N : Nat) (i : Nat) : (T53 N).lp i = qEN i := rfl
theorem q83 (N : Nat) (i : Nat) : (T53 N).ex i = qPo i := rfl
theorem zaA (N : Nat) (i : Nat) : (T53 N).rg i = qKX i := rfl
theorem q0W (N : Nat) (i : Nat) : (T53 N).jn i = qFl i := rfl
theorem q6a (N : Nat) : (T53 N).fuel = N := rfl
theorem qXh (N : Nat) (v0 : Val Y50) : qf tt Γ53 (T53 N) (Tryz.f53.body.getD .skip) (qm tt false [i50, i4] [.cell 2 50, .tmp 3]) (qq [i50] 20 (v0, ())) = m53 N v0 := by
  rw [m53]; unfold Tryz.f53
  simp (maxSteps := 10000000) -implicitDefEqProofs [zdm, qwy, zfs, qEN, q83, qPo, zaA, qKX, q0W, qFl, q6a, q7N, q86, q5i, q62, qYs, zcO, zbU, g44, qbc, qvl]
  try rfl
theorem q7X (c : Val Y33) : ∃ N, qO5 N c = some (qaM c, ()) := ⟨0, rfl⟩
theorem qSw : Sound Tryz.prog 148 qfr := qt (tt := tt) (Γ := qUg) hT qo hm (fn := Tryz.f148) Tryz.func148 (c := Tryz.f148.body.getD .skip) (by kernel_rfl) (by kernel_rfl) fun x hx => by
  obtain ⟨N, h⟩ := q7X x.1
  exact ⟨qdU N, q81, qw _, qXl N, (qZb N x.1).trans h⟩
theorem q5y (d : Int) : ∃ N, qCN N d = some (qeG d, ()) := ⟨0, rfl⟩
theorem q6J : Sound Tryz.prog 147 qvl := qt (tt := tt) (Γ := qSo) hT qo hm (fn := Tryz.f147) Tryz.func147 (c := Tryz.f147.body.getD .skip) (by kernel_rfl) (by kernel_rfl) fun x hx => by
  obtain ⟨N, h⟩ := q5y x.1
  exact ⟨qdP N, qWw, qw _, q0G N, (q5J N x.1).trans h⟩
theorem e54 (r : Val Y50) : ∃ N, m54 N r = some ((qT r).1, (qT r).2, ()) := ⟨0, by
  rw [m54]
  unfold qT
  cases qV r <;> rfl⟩
theorem s54 : Sound Tryz.prog 54 g54 := qt (tt := tt) (Γ := Γ54) hT (qg s45 (qg qyB (qg qSw qo))) hm (fn := Tryz.f54) Tryz.func54 (c := Tryz.f54.body.getD .skip) (by kernel_rfl) (by kernel_rfl) fun x hx => by
  obtain ⟨N, h⟩ := e54 x.1
  exact ⟨T54 N, p54, qw _, qZA N, (q3l N x.1).trans h⟩
theorem e53 (r : Val Y50) (h : qzR r) : ∃ N, m53 N r = some ((qT r).1, (qT r).2, ()) := ⟨0, by
  rw [m53, qe (show qbH r from h)]
  unfold qT
  cases hr : qV r with
  | false => rfl
  | true =>
    simp only [Bool.not_true, cond_false, cond_true]
    exact qe (show qdh (qeG r.1) r from ⟨⟨by show 1 ≤ 1048576; omega, fun c hc => by
      obtain rfl := List.mem_singleton.1 (show c ∈ [((r.1, []) : Val Y33)] from hc)
      exact Nat.zero_le _⟩, h⟩)⟩
theorem s53 : Sound Tryz.prog 53 g53 := qt (tt := tt) (Γ := Γ53) hT (qg s44 (qg qzr (qg q6J qo))) hm (fn := Tryz.f53) Tryz.func53 (c := Tryz.f53.body.getD .skip) (by kernel_rfl) (by kernel_rfl) fun x hx => by
  obtain ⟨N, h⟩ := e53 x.1 hx
  exact ⟨T53 N, p53, qw _, zdL N, (qXh N x.1).trans h⟩
end Go.T
