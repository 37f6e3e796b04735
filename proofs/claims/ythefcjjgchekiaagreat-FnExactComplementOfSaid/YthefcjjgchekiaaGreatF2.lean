/- The law of SameRegion. -/
import Derived.Test.YthefcjjgchekiaaGreatF1
import Derived.Test.YthefcjjgchekiaaGreatE13
set_option linter.unusedSimpArgs false
set_option linter.unusedVariables false
namespace Go.T
open Go Go.Proofs
set_option maxHeartbeats 4000000
set_option maxRecDepth 100000
noncomputable def m5 (N : Nat) (v0 : Val Y42) (v1 : Val Y42) : Option (qb [i4]) := chk (qb6 v0 (1048576 : Int)) (bif (decide (((qaO v0 (1048576 : Int)) : Int) < (0 : Int))) then (some (true, ())) else (chk (qb6 v1 ((qaO v0 (1048576 : Int)) : Int)) (bif (decide (((qaO v1 ((qaO v0 (1048576 : Int)) : Int)) : Int) < (0 : Int))) then (some (true, ())) else (chk (qal v0) (chk (qal v1) (chk (qvH (((qd v0).1 : Int), ((qd v0).2 : List (Val Y33))) (((qd v1).1 : Int), ((qd v1).2 : List (Val Y33)))) (chk (qal v0) (chk (qal v1) (bif (!(((qb7 (((qd v0).1 : Int), ((qd v0).2 : List (Val Y33))) (((qd v1).1 : Int), ((qd v1).2 : List (Val Y33)))).1 : Bool) == ((qb7 (((qd v0).1 : Int), ((qd v0).2 : List (Val Y33))) (((qd v1).1 : Int), ((qd v1).2 : List (Val Y33)))).1 : Bool))) then (some (false, ())) else (bif (!(((qb7 (((qd v0).1 : Int), ((qd v0).2 : List (Val Y33))) (((qd v1).1 : Int), ((qd v1).2 : List (Val Y33)))).2 : Bool) == ((qb7 (((qd v0).1 : Int), ((qd v0).2 : List (Val Y33))) (((qd v1).1 : Int), ((qd v1).2 : List (Val Y33)))).2 : Bool))) then (some (false, ())) else (chk (qal v0) (chk (qaA (((qd v0).1 : Int), ((qd v0).2 : List (Val Y33))) (((qd v0).1 : Int), ((qd v0).2 : List (Val Y33)))) (bif (!((qaT (((qd v0).1 : Int), ((qd v0).2 : List (Val Y33))) (((qd v0).1 : Int), ((qd v0).2 : List (Val Y33)))) : Bool)) then (some (false, ())) else (chk (qal v1) (chk (qaA (((qd v1).1 : Int), ((qd v1).2 : List (Val Y33))) (((qd v1).1 : Int), ((qd v1).2 : List (Val Y33)))) (bif (!((qaT (((qd v1).1 : Int), ((qd v1).2 : List (Val Y33))) (((qd v1).1 : Int), ((qd v1).2 : List (Val Y33)))) : Bool)) then (some (false, ())) else (some (true, ()))))))))))))))))))
def Γ5 : Gam := [(30, g30), (33, g33), (36, g36), (38, g38), (39, g39)]
theorem zdk : Gam.get Γ5 30 = some g30 := rfl
theorem q2b : Gam.get Γ5 33 = some g33 := rfl
theorem qZm : Gam.get Γ5 36 = some g36 := rfl
theorem qV4 : Gam.get Γ5 38 = some g38 := rfl
theorem qWs : Gam.get Γ5 39 = some g39 := rfl
def tr5 : Nat → Tree := fun i => if i = 8 then .quiet 0 (.alt 1 (.quiet 2 (.alt 3 (.alt 4 (.quiet 5 (.quiet 6 (.quiet 7 (.quiet 8 (.quiet 9 .done))))) .stop) .stop)) (.alt 2 (.alt 1 (.alt 3 (.alt 4 (.quiet 5 (.quiet 6 (.quiet 7 (.quiet 8 (.quiet 9 .done))))) .stop) .stop) .stop) .stop)) else if i = 14 then .quiet 1 (.alt 0 (.alt 2 (.alt 3 (.quiet 4 .done) .stop) .stop) (.alt 2 (.quiet 0 (.alt 3 (.quiet 4 .done) .stop)) .stop)) else if i = 16 then .quiet 1 (.alt 0 (.alt 2 (.alt 3 (.quiet 4 .done) .stop) .stop) (.alt 2 (.quiet 0 (.alt 3 (.quiet 4 .done) .stop)) .stop)) else .done
def lp5 : Nat → Nm := fun _ => ⟨[], [], false⟩
def jn5 : Nat → Option Jn := fun _ => none
def ex5 : Nat → Option Nm := fun _ => none
def rg5 : Nat → Option Nm := fun _ => none
theorem p5 : qj tr5 (Tryz.f5.body.getD .skip) = true := by kernel_rfl
def T5 (N : Nat) : Tab := { tr := tr5, lp := lp5, ex := ex5, rg := rg5, jn := jn5, fuel := N }
theorem q6R (N : Nat) : (T5 N).pins = false := rfl
theorem tb5 (N : Nat) : qk Tryz.prog (T5 N) := qp fun _ => rfl
theorem q8Z (N : Nat) (i : Nat) : (T5 N).tr i = tr5 i := rfl
theorem qX8 (N : Nat) (i : Nat) : (T5 N).lp i = lp5 i := rfl
theorem qYM (N : Nat) (i : Nat) : (T5 N).ex i = ex5 i := rfl
theorem zdq (N : Nat) (i : Nat) : (T5 N).rg i = rg5 i := rfl
theorem q29 (N : Nat) (i : Nat) : (T5 N).jn i = jn5 i := rfl
theorem q5M (N : Nat) : (T5 N).fuel = N := rfl
theorem q8P (N : Nat) (v0 : Val Y42) (v1 : Val Y42) : qf tt Γ5 (T5 N) (Tryz.f5.body.getD .skip) (qm tt true [i4] [.tmp 4]) (qq [i42, i42] 58 (v0, v1, ())) = m5 N v0 v1 := by
  rw [m5]; unfold Tryz.f5
  simp (maxSteps := 10000000) -implicitDefEqProofs [q8Z, tr5, qX8, lp5, qYM, ex5, zdq, rg5, q29, jn5, q5M, q6R, zdk, q2b, qZm, qV4, qWs, g30, g33, g36, g38, g39]
  try rfl
def qSY (_ : Val Y42) (_ : Val Y42) : Bool := true
def qUr (x0 : Val Y42) (x1 : Val Y42) : Prop := Sms [i42, i42] (x0, x1, ())
def g5 : G := { ps := [i42, i42], rs := [i4], dp := true, pre := fun x => qUr x.1 x.2.1, fn := fun x => (qSY x.1 x.2.1, ()) }
theorem qk2 {r : Val Y50} (h : Bd Y50 r) : qbH r := ⟨h.2.1, fun c hc => (h.2.2 c hc).2.1⟩
theorem e5 (x y : Val Y42) (h : qUr x y) : ∃ N, m5 N x y = some (qSY x y, ()) := ⟨0, by
  rw [m5, qe (show qb6 x 1048576 from ⟨h.1, by omega, by omega⟩)]
  by_cases c : qaO x 1048576 < 0
  · rw [qn c]; rfl
  rw [ql c]
  have hsz : 0 ≤ szV Y42 x 1048576 := by have : ¬ szV Y42 x 1048576 < 0 := c; omega
  have hle : szV Y42 x 1048576 ≤ 1048576 := (qbL Y42 x 1048576 (by omega)).1
  have hb : Bd Y42 x := qe4 Y42 x 1048576 (by omega) (by omega) hsz
  rw [qe (show qb6 y (qaO x 1048576) from ⟨h.2.1, hsz, hle⟩)]
  by_cases c2 : qaO y (qaO x 1048576) < 0
  · rw [qn c2]; rfl
  rw [ql c2]
  have hsz2 : 0 ≤ szV Y42 y (szV Y42 x 1048576) := by have : ¬ szV Y42 y (szV Y42 x 1048576) < 0 := c2; omega
  have hc : Bd Y42 y := qe4 Y42 y _ (by omega) (by omega) hsz2
  have tx : qal x := hb
  have ty : qal y := hc
  have hp : qvH (qd x) (qd y) := ⟨qk2 hb, qk2 hc⟩
  have ex : qaA (qd x) (qd x) := hb
  have ey : qaA (qd y) (qd y) := hc
  have rx : qaT (qd x) (qd x) = true := qgl _ _
  have ry : qaT (qd y) (qd y) = true := qgl _ _
  have eX : ((((qd x).1 : Int), ((qd x).2 : List (Val Y33))) : Val Y50) = qd x := rfl
  have eY : ((((qd y).1 : Int), ((qd y).2 : List (Val Y33))) : Val Y50) = qd y := rfl
  try rw [eX, eY]
  simp only [qe tx, qe ty, qe hp, qe ex, qe ey, rx, ry, Bool.not_true, cond_false, beq_self_eq_true]
  rfl⟩
theorem s5 : Sound Tryz.prog 5 g5 := qt (tt := tt) (Γ := Γ5) hT (qg s30 (qg s33 (qg s36 (qg s38 (qg s39 qo))))) hm (fn := Tryz.f5) Tryz.func5 (c := Tryz.f5.body.getD .skip) (by kernel_rfl) (by kernel_rfl) fun x hx => by
  obtain ⟨N, h⟩ := e5 x.1 x.2.1 hx
  exact ⟨T5 N, p5, qw _, tb5 N, (q8P N x.1 x.2.1).trans h⟩
end Go.T
