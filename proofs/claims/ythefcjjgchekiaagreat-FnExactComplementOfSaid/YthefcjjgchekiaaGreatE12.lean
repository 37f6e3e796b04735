/- Differences of regions: run. -/
import Derived.Test.YthefcjjgchekiaaGreatE11
set_option linter.unusedSimpArgs false
set_option linter.unusedVariables false
namespace Go.T
open Go Go.Proofs
set_option maxHeartbeats 4000000
set_option maxRecDepth 100000
def qaS : List (Val Y33) → Val Y50 → Val Y50 × Bool
  | [], r => (r, true)
  | c :: cs, r => bif (qH c).2 then (bif (qa2 r (qH c).1).2 then qaS cs (qa2 r (qH c).1).1 else qaR) else qaR
def qx (a b : Val Y50) : Val Y50 × Bool := bif qV a && qV b && decide ((a.1 : Int) = (b.1 : Int)) then (bif (qap a).2 then qaS b.2 (qap a).1 else qaR) else qaR
def qdh (a b : Val Y50) : Prop := qbH a ∧ qbH b
def g45 : G := { ps := [i50, i50], rs := [i50, i4], dp := true, pre := fun _ => True, fn := fun x => ((qx x.1 x.2.1).1, (qx x.1 x.2.1).2, ()) }
noncomputable def qgc (N : Nat) (v2 : List (Val Y33)) (v3 : Int) (v5 : Int) (k0 : Int → (List (Val Y33)) → Option (qb [i50, i4])) : Nat → Int → Int → (List (Val Y33)) → Option (qb [i50, i4])
  | 0, _, _, _ => none
  | n + 1, v4, v6, v7 => bif (decide (v4 < v3)) then (chk (0 ≤ v4 ∧ v4 < (v2.length : Int)) (bif (!((qH (v2.getD v4.toNat (qc Y33))).2 : Bool)) then (some (((0 : Int), ([] : List (Val Y33))), false, ())) else (chk (qut (v6, v7) ((((qH (v2.getD v4.toNat (qc Y33))).1).1 : Int), (((qH (v2.getD v4.toNat (qc Y33))).1).2 : List (Val qa)))) (bif (!((qa2 (v6, v7) ((((qH (v2.getD v4.toNat (qc Y33))).1).1 : Int), (((qH (v2.getD v4.toNat (qc Y33))).1).2 : List (Val qa)))).2 : Bool)) then (some (((0 : Int), ([] : List (Val Y33))), false, ())) else (qgc N v2 v3 v5 k0 n (IntKind.i64.wrap (v4 + (1 : Int))) (((qa2 (v6, v7) ((((qH (v2.getD v4.toNat (qc Y33))).1).1 : Int), (((qH (v2.getD v4.toNat (qc Y33))).1).2 : List (Val qa)))).1).1 : Int) (((qa2 (v6, v7) ((((qH (v2.getD v4.toNat (qc Y33))).1).1 : Int), (((qH (v2.getD v4.toNat (qc Y33))).1).2 : List (Val qa)))).1).2 : List (Val Y33))))))) else (k0 v6 v7)
noncomputable def m45 (N : Nat) (v0 : Val Y50) (v1 : Val Y50) : Option (qb [i50, i4]) := bif (!((qV v0) : Bool)) then (some (((0 : Int), ([] : List (Val Y33))), false, ())) else (bif (!((qV v1) : Bool)) then (some (((0 : Int), ([] : List (Val Y33))), false, ())) else (bif (!(decide ((v0.1 : Int) = (v1.1 : Int)))) then (some (((0 : Int), ([] : List (Val Y33))), false, ())) else (bif (!((qap v0).2 : Bool)) then (some (((0 : Int), ([] : List (Val Y33))), false, ())) else (qgc N (v1.2 : List (Val Y33)) ((v1.2 : List (Val Y33)).length : Int) (0 : Int) (fun (v10 : Int) (v11 : List (Val Y33)) => some ((v10, v11), true, ())) N (0 : Int) (((qap v0).1).1 : Int) (((qap v0).1).2 : List (Val Y33))))))
def Γ45 : Gam := [(124, qbC), (133, qj5), (138, qe5), (139, qkt)]
theorem qJV : Gam.get Γ45 124 = some qbC := rfl
theorem qAo : Gam.get Γ45 133 = some qj5 := rfl
theorem qBC : Gam.get Γ45 138 = some qe5 := rfl
theorem qHs : Gam.get Γ45 139 = some qkt := rfl
def qr1 : Nm := ⟨[false, false, false, false, true, false, true, false, false, false, false, false, false, false, false, false, false, false, false, false, false, false, false, false, false, false, false, false, false, false, false, false, false, false, false, false, false, true, true, true], [], false⟩
theorem qJv : qr1.zero = false := rfl
theorem qGJ : qr1.fix = [] := rfl
theorem qP4 : qr1.keep = [false, false, false, false, true, false, true, false, false, false, false, false, false, false, false, false, false, false, false, false, false, false, false, false, false, false, false, false, false, false, false, false, false, false, false, false, false, true, true, true] := rfl
def qz1 : Nm := ⟨[false, false, false, false, true, false, true], [], false⟩
theorem qLV : qz1.zero = false := rfl
theorem qLE : qz1.fix = [] := rfl
theorem qHm : qz1.keep = [false, false, false, false, true, false, true] := rfl
def qlO : Nat → Tree := fun _ => .done
def qq1 : Nat → Nm := fun i => if i = 7 then qr1 else ⟨[], [], false⟩
def qrK : Nat → Option Jn := fun _ => none
def qq0 : Nat → Option Nm := fun i => if i = 0 then some qz1 else none
def qtN : Nat → Option Nm := fun _ => none
theorem p45 : qj qlO (Tryz.f45.body.getD .skip) = true := by kernel_rfl
def T45 (N : Nat) : Tab := { tr := qlO, lp := qq1, ex := qq0, rg := qtN, jn := qrK, fuel := N }
theorem qMs (N : Nat) : (T45 N).pins = false := rfl
theorem zet (N : Nat) : qk Tryz.prog (T45 N) := qp fun _ => rfl
theorem qMW (N : Nat) (i : Nat) : (T45 N).tr i = qlO i := rfl
theorem qFp (N : Nat) (i : Nat) : (T45 N).lp i = qq1 i := rfl
theorem qAA (N : Nat) (i : Nat) : (T45 N).ex i = qq0 i := rfl
theorem qBf (N : Nat) (i : Nat) : (T45 N).rg i = qtN i := rfl
theorem qJ0 (N : Nat) (i : Nat) : (T45 N).jn i = qrK i := rfl
theorem qGA (N : Nat) : (T45 N).fuel = N := rfl
noncomputable def qTD : Code := cut [true, true, true, true, false, true, true, true] (Tryz.f45.body.getD .skip)
theorem q4Y {N : Nat} {Q : X → St → Option (qb [i50, i4])} {e : List LV} {h : List Blk} : qf tt Γ45 (T45 N) qTD Q ⟨e, h⟩ = qf tt Γ45 (T45 N) (cut [true, true, true, true, false, true, true, true] (Tryz.f45.body.getD .skip)) Q ⟨e, h⟩ := rfl
theorem q6p (N : Nat) (v2 : List (Val Y33)) (v3 : Int) (v5 : Int) {k0 : Int → (List (Val Y33)) → Option (qb [i50, i4])} {Q : X → St → Option (qb [i50, i4])} {c : Code} (hc : c = qTD) (hret : ∀ st, Q .ret st = qE tt true [i50, i4] [.cell 4 50, .tmp 5] st) (h0 : ∀ (v8 : Int) (v9 : List (Val Y33)), Q (.exit 0) ⟨[u, u, u, u, .one (.ptr 0 0 0), u, .one (.ptr 1 0 0), u, u, u, u, u, u, u, u, u, u, u, u, u, u, u, u, u, u, u, u, u, u, u, u, u, u, u, u, u, u, u, u, u, u, u, u, u, u, u, u, u, u, u, u, u, u, u, u, u, u, u, u, u, u, u], [.box [.int .i64 v5, .nils], .box [.int .i64 v8, .own 2], .row 33 Y33 v9 true true 0]⟩ = k0 v8 v9) : ∀ (n : Nat) (v4 : Int) (v6 : Int) (v7 : List (Val Y33)), qF (qf tt Γ45 (T45 N) c) false qr1 Q n ⟨[u, u, u, u, .one (.ptr 0 0 0), u, .one (.ptr 1 0 0), u, u, u, u, u, u, u, u, u, u, u, u, u, u, u, u, u, u, u, u, u, u, u, u, u, u, u, u, u, u, .one (.sl 33 Y33 v2 3), .one (.int .i64 v3), .one (.int .i64 v4), u, u, u, u, u, u, u, u, u, u, u, u, u, u, u, u, u, u, u, u, u, u], [.box [.int .i64 v5, .nils], .box [.int .i64 v6, .own 2], .row 33 Y33 v7 true true 0]⟩ = qgc N v2 v3 v5 k0 n v4 v6 v7 := by
  subst hc; intro n; induction n with
  | zero => intros; rfl
  | succ n ih =>
    intro v4 v6 v7
    rw [qM, q4Y, qgc]; unfold Tryz.f45
    simp (maxSteps := 10000000) -implicitDefEqProofs [qMW, qlO, qFp, qq1, qAA, qq0, qBf, qtN, qJ0, qrK, qGA, qMs, qGJ, qP4, qJv, qLE, qHm, qLV, qJV, qAo, qBC, qHs, qbC, qj5, qe5, qkt, hret, h0, ih]
theorem zbR (N : Nat) (v0 : Val Y50) (v1 : Val Y50) : qf tt Γ45 (T45 N) (Tryz.f45.body.getD .skip) (qm tt true [i50, i4] [.cell 4 50, .tmp 5]) (qq [i50, i50] 62 (v0, v1, ())) = m45 N v0 v1 := by
  unfold Tryz.f45
  simp (maxSteps := 10000000) -implicitDefEqProofs [qMW, qlO, qFp, qq1, qAA, qq0, qBf, qtN, qJ0, qrK, qGA, qMs, qGJ, qP4, qJv, qLE, qHm, qLV, qJV, qAo, qBC, qHs, qbC, qj5, qe5, qkt]
  rewrite [q6p (k0 := (fun (v10 : Int) (v11 : List (Val Y33)) => some ((v10, v11), true, ()))) N _ _ _ ?_ ?_ ?_]
  · rewrite [m45]; first | rfl | simp (maxSteps := 10000000) -implicitDefEqProofs []
  · rfl
  · intro; simp only [qK, qJ, qL, qC]
  · intro v10 v11; simp (maxSteps := 10000000) -implicitDefEqProofs [qMW, qlO, qFp, qq1, qAA, qq0, qBf, qtN, qJ0, qrK, qGA, qMs, qGJ, qP4, qJv, qLE, qHm, qLV, qJV, qAo, qBC, qHs, qbC, qj5, qe5, qkt]
def g44 : G := { ps := [i50, i50], rs := [i50, i4], dp := false, pre := fun x => qdh x.1 x.2.1, fn := fun x => ((qx x.1 x.2.1).1, (qx x.1 x.2.1).2, ()) }
noncomputable def qgu (N : Nat) (v3 : Int) (v4 : List (Val Y33)) (v5 : Int) (k0 : Int → (List (Val Y33)) → Option (qb [i50, i4])) : Nat → Int → Int → (List (Val Y33)) → Option (qb [i50, i4])
  | 0, _, _, _ => none
  | n + 1, v2, v6, v7 => bif (decide (v2 < (v4.length : Int))) then (chk (0 ≤ v2 ∧ v2 < (v4.length : Int)) (chk (qvz (v6, v7) (v4.getD v2.toNat (qc Y33))) (bif (!((qcB (v6, v7) (v4.getD v2.toNat (qc Y33))).2 : Bool)) then (some (((0 : Int), ([] : List (Val Y33))), false, ())) else (qgu N v3 v4 v5 k0 n (IntKind.i64.wrap (v2 + (1 : Int))) (((qcB (v6, v7) (v4.getD v2.toNat (qc Y33))).1).1 : Int) (((qcB (v6, v7) (v4.getD v2.toNat (qc Y33))).1).2 : List (Val Y33)))))) else (k0 v6 v7)
noncomputable def m44 (N : Nat) (v0 : Val Y50) (v1 : Val Y50) : Option (qb [i50, i4]) := chk (qwJ v0) (bif (!((qap v0).2 : Bool)) then (some (((0 : Int), ([] : List (Val Y33))), false, ())) else (chk (qbH v1) (bif (!((qV v1) : Bool)) then (some (((0 : Int), ([] : List (Val Y33))), false, ())) else (bif (!(decide ((v0.1 : Int) = (v1.1 : Int)))) then (some (((0 : Int), ([] : List (Val Y33))), false, ())) else (qgu N (v1.1 : Int) (v1.2 : List (Val Y33)) (0 : Int) (fun (v10 : Int) (v11 : List (Val Y33)) => some ((v10, v11), true, ())) N (0 : Int) (((qap v0).1).1 : Int) (((qap v0).1).2 : List (Val Y33)))))))
def Γ44 : Gam := [(117, qbc), (131, qj3), (137, qkA)]
theorem qOh : Gam.get Γ44 117 = some qbc := rfl
theorem qGg : Gam.get Γ44 131 = some qj3 := rfl
theorem qJG : Gam.get Γ44 137 = some qkA := rfl
def qmm : Nm := ⟨[false, false, false, true, true, false, true, false, true], [], false⟩
theorem qFt : qmm.zero = false := rfl
theorem qPK : qmm.fix = [] := rfl
theorem qJZ : qmm.keep = [false, false, false, true, true, false, true, false, true] := rfl
def qy9 : Nm := ⟨[false, false, false, false, true, false, true], [], false⟩
theorem qEa : qy9.zero = false := rfl
theorem qPx : qy9.fix = [] := rfl
theorem qIF : qy9.keep = [false, false, false, false, true, false, true] := rfl
def qz2 : Nm := ⟨[false, false, false, true, true, false, true, false, true, true, true], [], false⟩
theorem qMK : qz2.zero = false := rfl
theorem qFn : qz2.fix = [] := rfl
theorem qBh : qz2.keep = [false, false, false, true, true, false, true, false, true, true, true] := rfl
def qle : Nat → Tree := fun i => if i = 7 then .first 3 (.grow 0 (.grow 1 (.grow 2 (.grow 4 (.grow 5 (.alt 6 (.first 7 (.first 8 (.first 9 (.alt 10 (.alt 11 (.quiet 12 .done) .stop) .stop)))) (.alt 10 (.alt 6 (.quiet 7 (.quiet 8 (.first 9 (.alt 11 (.quiet 12 .done) .stop)))) .stop) .stop))))))) else .done
def qr6 : Nat → Nm := fun i => if i = 5 then qmm else ⟨[], [], false⟩
def qmw : Nat → Option Jn := fun _ => none
def qtj : Nat → Option Nm := fun i => if i = 0 then some qy9 else none
def qn9 : Nat → Option Nm := fun i => if i = 7 then some qz2 else none
theorem p44 : qj qle (Tryz.f44.body.getD .skip) = true := by kernel_rfl
def T44 (N : Nat) : Tab := { tr := qle, lp := qr6, ex := qtj, rg := qn9, jn := qmw, fuel := N }
theorem qK4 (N : Nat) : (T44 N).pins = false := rfl
theorem zfb (N : Nat) : qk Tryz.prog (T44 N) := qp fun _ => rfl
theorem qED (N : Nat) (i : Nat) : (T44 N).tr i = qle i := rfl
theorem qAU (N : Nat) (i : Nat) : (T44 N).lp i = qr6 i := rfl
theorem qOu (N : Nat) (i : Nat) : (T44 N).ex i = qtj i := rfl
theorem qMr (N : Nat) (i : Nat) : (T44 N).rg i = qn9 i := rfl
theorem qIA (N : Nat) (i : Nat) : (T44 N).jn i = qmw i := rfl
theorem qQa (N : Nat) : (T44 N).fuel = N := rfl
noncomputable def qTg : Code := cut [true, true, true, false, true, true, true] (Tryz.f44.body.getD .skip)
theorem zcC {N : Nat} {Q : X → St → Option (qb [i50, i4])} {e : List LV} {h : List Blk} : qf tt Γ44 (T44 N) qTg Q ⟨e, h⟩ = qf tt Γ44 (T44 N) (cut [true, true, true, false, true, true, true] (Tryz.f44.body.getD .skip)) Q ⟨e, h⟩ := rfl
theorem q8F (N : Nat) (v3 : Int) (v4 : List (Val Y33)) (v5 : Int) {k0 : Int → (List (Val Y33)) → Option (qb [i50, i4])} {Q : X → St → Option (qb [i50, i4])} {c : Code} (hc : c = qTg) (hret : ∀ st, Q .ret st = qE tt false [i50, i4] [.cell 4 50, .tmp 5] st) (h0 : ∀ (v8 : Int) (v9 : List (Val Y33)), Q (.exit 0) ⟨[u, u, u, u, .one (.ptr 0 0 0), u, .one (.ptr 1 0 0), u, u, u, u, u, u, u, u, u, u, u, u, u, u, u, u, u, u, u, u, u, u, u, u, u, u, u, u, u, u, u, u, u, u, u, u, u, u, u, u, u, u, u, u, u, u], [.box [.int .i64 v5, .nils], .box [.int .i64 v8, .sl 33 Y33 v9 2]]⟩ = k0 v8 v9) : ∀ (n : Nat) (v2 : Int) (v6 : Int) (v7 : List (Val Y33)), qF (qf tt Γ44 (T44 N) c) false qmm Q n ⟨[u, u, u, .one (.ptr 0 0 0), .one (.ptr 1 0 0), u, .one (.ptr 2 0 0), u, .one (.int .i64 v2), u, u, u, u, u, u, u, u, u, u, u, u, u, u, u, u, u, u, u, u, u, u, u, u, u, u, u, u, u, u, u, u, u, u, u, u, u, u, u, u, u, u, u, u], [.box [.int .i64 v3, .sl 33 Y33 v4 3], .box [.int .i64 v5, .nils], .box [.int .i64 v6, .sl 33 Y33 v7 3]]⟩ = qgu N v3 v4 v5 k0 n v2 v6 v7 := by
  subst hc; intro n; induction n with
  | zero => intros; rfl
  | succ n ih =>
    intro v2 v6 v7
    rw [qM, zcC, qgu]; unfold Tryz.f44
    simp (maxSteps := 10000000) -implicitDefEqProofs [qED, qle, qAU, qr6, qOu, qtj, qMr, qn9, qIA, qmw, qQa, qK4, qPK, qJZ, qFt, qPx, qIF, qEa, qFn, qBh, qMK, qOh, qGg, qJG, qbc, qj3, qkA, hret, h0, ih]
theorem q1Y (N : Nat) (v0 : Val Y50) (v1 : Val Y50) : qf tt Γ44 (T44 N) (Tryz.f44.body.getD .skip) (qm tt false [i50, i4] [.cell 4 50, .tmp 5]) (qq [i50, i50] 53 (v0, v1, ())) = m44 N v0 v1 := by
  unfold Tryz.f44
  simp (maxSteps := 10000000) -implicitDefEqProofs [qED, qle, qAU, qr6, qOu, qtj, qMr, qn9, qIA, qmw, qQa, qK4, qPK, qJZ, qFt, qPx, qIF, qEa, qFn, qBh, qMK, qOh, qGg, qJG, qbc, qj3, qkA]
  rewrite [q8F (k0 := (fun (v10 : Int) (v11 : List (Val Y33)) => some ((v10, v11), true, ()))) N _ _ _ ?_ ?_ ?_]
  · rewrite [m44]; first | rfl | simp (maxSteps := 10000000) -implicitDefEqProofs []
  · rfl
  · intro; simp only [qK, qJ, qL, qC]
  · intro v10 v11; simp (maxSteps := 10000000) -implicitDefEqProofs [qED, qle, qAU, qr6, qOu, qtj, qMr, qn9, qIA, qmw, qQa, qK4, qPK, qJZ, qFt, qPx, qIF, qEa, qFn, qBh, qMK, qOh, qGg, qJG, qbc, qj3, qkA]
def qau (a b : Val Y50) : Bool × Bool := bif (qx b a).2 then (decide ((List.length (α := Val Y33) (qx b a).1.2 : Int) = 0), true) else (false, false)
def qkq (a b : Val Y50) : Prop := qdh b a
def qwn : G := { ps := [i50, i50], rs := [i4, i4], dp := true, pre := fun _ => True, fn := fun x => ((qau x.1 x.2.1).1, (qau x.1 x.2.1).2, ()) }
noncomputable def qwN (N : Nat) (v0 : Val Y50) (v1 : Val Y50) : Option (qb [i4, i4]) := bif (!((qx v1 v0).2 : Bool)) then (some (false, false, ())) else (some ((decide (((((qx v1 v0).1).2 : List (Val Y33)).length : Int) = (0 : Int))), true, ()))
def qKq : Gam := [(45, g45)]
theorem qWT : Gam.get qKq 45 = some g45 := rfl
def qw0 : Nat → Tree := fun _ => .done
def qD7 : Nat → Nm := fun _ => ⟨[], [], false⟩
def qAI : Nat → Option Jn := fun _ => none
def qHd : Nat → Option Nm := fun _ => none
def qJY : Nat → Option Nm := fun _ => none
theorem q6r : qj qw0 (Tryz.f130.body.getD .skip) = true := by kernel_rfl
def qes (N : Nat) : Tab := { tr := qw0, lp := qD7, ex := qHd, rg := qJY, jn := qAI, fuel := N }
theorem q7O (N : Nat) : (qes N).pins = false := rfl
theorem qWg (N : Nat) : qk Tryz.prog (qes N) := qp fun _ => rfl
theorem zdx (N : Nat) (i : Nat) : (qes N).tr i = qw0 i := rfl
theorem qYv (N : Nat) (i : Nat) : (qes N).lp i = qD7 i := rfl
theorem qX4 (N : Nat) (i : Nat) : (qes N).ex i = qHd i := rfl
theorem qXG (N : Nat) (i : Nat) : (qes N).rg i = qJY i := rfl
theorem q3d (N : Nat) (i : Nat) : (qes N).jn i = qAI i := rfl
theorem q71 (N : Nat) : (qes N).fuel = N := rfl
theorem q7I (N : Nat) (v0 : Val Y50) (v1 : Val Y50) : qf tt qKq (qes N) (Tryz.f130.body.getD .skip) (qm tt true [i4, i4] [.tmp 4, .tmp 5]) (qq [i50, i50] 20 (v0, v1, ())) = qwN N v0 v1 := by
  rw [qwN]; unfold Tryz.f130
  simp (maxSteps := 10000000) -implicitDefEqProofs [zdx, qw0, qYv, qD7, qX4, qHd, qXG, qJY, q3d, qAI, q71, q7O, qWT, g45]
  try rfl
def qvC : G := { ps := [i50, i50], rs := [i4, i4], dp := true, pre := fun x => qkq x.1 x.2.1, fn := fun x => ((qau x.1 x.2.1).1, (qau x.1 x.2.1).2, ()) }
noncomputable def qvp (N : Nat) (v0 : Val Y50) (v1 : Val Y50) : Option (qb [i4, i4]) := chk (qdh v1 v0) (bif ((qx v1 v0).2 : Bool) then (some ((decide (((((qx v1 v0).1).2 : List (Val Y33)).length : Int) = (0 : Int))), ((qx v1 v0).2 : Bool), ())) else (some (false, ((qx v1 v0).2 : Bool), ())))
def qG7 : Gam := [(44, g44)]
theorem qXe : Gam.get qG7 44 = some g44 := rfl
def qzv : Nat → Tree := fun _ => .done
def qI5 : Nat → Nm := fun _ => ⟨[], [], false⟩
def qLi : Nat → Option Jn := fun _ => none
def qCo : Nat → Option Nm := fun _ => none
def qGb : Nat → Option Nm := fun _ => none
theorem zfw : qj qzv (Tryz.f129.body.getD .skip) = true := by kernel_rfl
def qec (N : Nat) : Tab := { tr := qzv, lp := qI5, ex := qCo, rg := qGb, jn := qLi, fuel := N }
theorem zbO (N : Nat) : (qec N).pins = false := rfl
theorem q2D (N : Nat) : qk Tryz.prog (qec N) := qp fun _ => rfl
theorem zdf (N : Nat) (i : Nat) : (qec N).tr i = qzv i := rfl
theorem qXS (N : Nat) (i : Nat) : (qec N).lp i = qI5 i := rfl
theorem zdY (N : Nat) (i : Nat) : (qec N).ex i = qCo i := rfl
theorem zdV (N : Nat) (i : Nat) : (qec N).rg i = qGb i := rfl
theorem zbn (N : Nat) (i : Nat) : (qec N).jn i = qLi i := rfl
theorem q0I (N : Nat) : (qec N).fuel = N := rfl
theorem q1f (N : Nat) (v0 : Val Y50) (v1 : Val Y50) : qf tt qG7 (qec N) (Tryz.f129.body.getD .skip) (qm tt true [i4, i4] [.tmp 4, .tmp 5]) (qq [i50, i50] 22 (v0, v1, ())) = qvp N v0 v1 := by
  rw [qvp]; unfold Tryz.f129
  simp (maxSteps := 10000000) -implicitDefEqProofs [zdf, qzv, qXS, qI5, zdY, qCo, zdV, qGb, zbn, qLi, q0I, zbO, qXe, g44]
  try rfl
def qb7 (a b : Val Y50) : Bool × Bool := bif (qau a b).2 && (qau b a).2 then ((qau a b).1 && (qau b a).1, true) else (false, false)
def qvH (a b : Val Y50) : Prop := qdh a b
def g39 : G := { ps := [i50, i50], rs := [i4, i4], dp := true, pre := fun _ => True, fn := fun x => ((qb7 x.1 x.2.1).1, (qb7 x.1 x.2.1).2, ()) }
noncomputable def m39 (N : Nat) (v0 : Val Y50) (v1 : Val Y50) : Option (qb [i4, i4]) := bif (!((qau v0 v1).2 : Bool)) then (some (false, false, ())) else (bif (!((qau v1 v0).2 : Bool)) then (some (false, false, ())) else (bif ((qau v0 v1).1 : Bool) then (some (((qau v1 v0).1 : Bool), true, ())) else (some (false, true, ()))))
def Γ39 : Gam := [(130, qwn)]
theorem q80 : Gam.get Γ39 130 = some qwn := rfl
def qup : Nat → Tree := fun _ => .done
def qPQ : Nat → Nm := fun _ => ⟨[], [], false⟩
def qMa : Nat → Option Jn := fun _ => none
def qI6 : Nat → Option Nm := fun _ => none
def qDl : Nat → Option Nm := fun _ => none
theorem p39 : qj qup (Tryz.f39.body.getD .skip) = true := by kernel_rfl
def T39 (N : Nat) : Tab := { tr := qup, lp := qPQ, ex := qI6, rg := qDl, jn := qMa, fuel := N }
theorem zbK (N : Nat) : (T39 N).pins = false := rfl
theorem zcK (N : Nat) : qk Tryz.prog (T39 N) := qp fun _ => rfl
theorem zeY (N : Nat) (i : Nat) : (T39 N).tr i = qup i := rfl
theorem zds (N : Nat) (i : Nat) : (T39 N).lp i = qPQ i := rfl
theorem qXy (N : Nat) (i : Nat) : (T39 N).ex i = qI6 i := rfl
theorem q5d (N : Nat) (i : Nat) : (T39 N).rg i = qDl i := rfl
theorem zck (N : Nat) (i : Nat) : (T39 N).jn i = qMa i := rfl
theorem zcw (N : Nat) : (T39 N).fuel = N := rfl
theorem q9J (N : Nat) (v0 : Val Y50) (v1 : Val Y50) : qf tt Γ39 (T39 N) (Tryz.f39.body.getD .skip) (qm tt true [i4, i4] [.tmp 4, .tmp 5]) (qq [i50, i50] 32 (v0, v1, ())) = m39 N v0 v1 := by
  rw [m39]; unfold Tryz.f39
  simp (maxSteps := 10000000) -implicitDefEqProofs [zeY, qup, zds, qPQ, qXy, qI6, q5d, qDl, zck, qMa, zcw, zbK, q80, qwn]
  try rfl
def g38 : G := { ps := [i50, i50], rs := [i4, i4], dp := true, pre := fun x => qvH x.1 x.2.1, fn := fun x => ((qb7 x.1 x.2.1).1, (qb7 x.1 x.2.1).2, ()) }
noncomputable def m38 (N : Nat) (v0 : Val Y50) (v1 : Val Y50) : Option (qb [i4, i4]) := chk (qkq v0 v1) (chk (qkq v1 v0) (bif (!((qau v0 v1).2 : Bool)) then (some (false, false, ())) else (bif (!((qau v1 v0).2 : Bool)) then (some (false, false, ())) else (bif ((qau v0 v1).1 : Bool) then (some (((qau v1 v0).1 : Bool), true, ())) else (some (false, true, ()))))))
def Γ38 : Gam := [(129, qvC)]
theorem qZZ : Gam.get Γ38 129 = some qvC := rfl
def qua : Nat → Tree := fun _ => .done
def qF2 : Nat → Nm := fun _ => ⟨[], [], false⟩
def qFf : Nat → Option Jn := fun _ => none
def qPf : Nat → Option Nm := fun _ => none
def qIO : Nat → Option Nm := fun _ => none
theorem p38 : qj qua (Tryz.f38.body.getD .skip) = true := by kernel_rfl
def T38 (N : Nat) : Tab := { tr := qua, lp := qF2, ex := qPf, rg := qIO, jn := qFf, fuel := N }
theorem q1k (N : Nat) : (T38 N).pins = false := rfl
theorem q2s (N : Nat) : qk Tryz.prog (T38 N) := qp fun _ => rfl
theorem zcZ (N : Nat) (i : Nat) : (T38 N).tr i = qua i := rfl
theorem q3N (N : Nat) (i : Nat) : (T38 N).lp i = qF2 i := rfl
theorem q0q (N : Nat) (i : Nat) : (T38 N).ex i = qPf i := rfl
theorem qXu (N : Nat) (i : Nat) : (T38 N).rg i = qIO i := rfl
theorem q8R (N : Nat) (i : Nat) : (T38 N).jn i = qFf i := rfl
theorem zaa (N : Nat) : (T38 N).fuel = N := rfl
theorem q85 (N : Nat) (v0 : Val Y50) (v1 : Val Y50) : qf tt Γ38 (T38 N) (Tryz.f38.body.getD .skip) (qm tt true [i4, i4] [.tmp 4, .tmp 5]) (qq [i50, i50] 32 (v0, v1, ())) = m38 N v0 v1 := by
  rw [m38]; unfold Tryz.f38
  simp (maxSteps := 10000000) -implicitDefEqProofs [zcZ, qua, q3N, qF2, q0q, qPf, qXu, qIO, q8R, qFf, zaa, q1k, qZZ, qvC]
  try rfl
end Go.T
