/- Neat regions: run. -/
import Derived.Test.YthefcjjgchekiaaGreatE7
set_option linter.unusedSimpArgs false
set_option linter.unusedVariables false
namespace Go.T
open Go Go.Proofs
set_option maxHeartbeats 4000000
set_option maxRecDepth 100000
def qaW (f : qb [i33] → qb [i33, i4]) : List (Val Y33) → Val Y50 → Val Y50 × Bool
  | [], r => (r, true)
  | c :: cs, r => bif (f (c, ())).2.1 then (bif (q4 r (f (c, ())).1).2 then qaW f cs (q4 r (f (c, ())).1).1 else qaR) else qaR
def qgq (f : qb [i33] → qb [i33, i4]) (x : Val Y50) : Val Y50 × Bool := qaW f x.2 (x.1, [])
def quQ (p : qb [i33] → Prop) (_ : qb [i33] → qb [i33, i4]) (x : Val Y50) : Prop := List.length (α := Val Y33) x.2 ≤ 12 ∧ ∀ c ∈ (x.2 : List (Val Y33)), p (c, ())
def qIb : Gh := { r := i50, ps := [i33], qs := [i33, i4], rs := [i50, i4], pre := fun p f x => quQ p f x, fn := fun f x => ((qgq f x).1, (qgq f x).2, ()) }
noncomputable def qjD (N : HN [i33] [i33, i4]) (v1 : List (Val Y33)) (v2 : Int) (v4 : Int) (k0 : Int → (List (Val Y33)) → Option (qb [i50, i4])) : Nat → Int → Int → (List (Val Y33)) → Option (qb [i50, i4])
  | 0, _, _, _ => none
  | n + 1, v3, v5, v6 => bif (decide (v3 < v2)) then (chk (0 ≤ v3 ∧ v3 < (v1.length : Int)) (chk (N.pre ((v1.getD v3.toNat (qc Y33)), ())) (bif (!((N.fn ((v1.getD v3.toNat (qc Y33)), ())).2.1 : Bool)) then (some (((0 : Int), ([] : List (Val Y33))), false, ())) else (chk (qhy (v5, v6) ((N.fn ((v1.getD v3.toNat (qc Y33)), ())).1)) (bif (!((qqa (v5, v6) ((N.fn ((v1.getD v3.toNat (qc Y33)), ())).1)) : Bool)) then (some (((0 : Int), ([] : List (Val Y33))), false, ())) else (qjD N v1 v2 v4 k0 n (IntKind.i64.wrap (v3 + (1 : Int))) ((qhR (v5, v6) ((N.fn ((v1.getD v3.toNat (qc Y33)), ())).1)).1 : Int) ((qhR (v5, v6) ((N.fn ((v1.getD v3.toNat (qc Y33)), ())).1)).2 : List (Val Y33)))))))) else (k0 v5 v6)
noncomputable def qwI (N : HN [i33] [i33, i4]) (v0 : Val Y50) : Option (qb [i50, i4]) := qjD N (v0.2 : List (Val Y33)) ((v0.2 : List (Val Y33)).length : Int) (0 : Int) (fun (v9 : Int) (v10 : List (Val Y33)) => some ((v9, v10), true, ())) N (0 : Int) (v0.1 : Int) ([] : List (Val Y33))
def qla : Gam := []
theorem qKa : Gam.get qla 222 = none := rfl
def qok : Nm := ⟨[false, true, false, false, true, false, true, false, false, false, false, false, false, false, false, false, true, true, true], [], true⟩
theorem qIj : qok.zero = true := rfl
theorem qDk : qok.fix = [] := rfl
theorem qEQ : qok.keep = [false, true, false, false, true, false, true, false, false, false, false, false, false, false, false, false, true, true, true] := rfl
def qAa : Nm := ⟨[false, false, false, false, true, false, true], [], true⟩
theorem qOp : qAa.zero = true := rfl
theorem qOC : qAa.fix = [] := rfl
theorem qJQ : qAa.keep = [false, false, false, false, true, false, true] := rfl
def qrz (N : HN [i33] [i33, i4]) : Sem := qnb N.fv [i33] [i33, i4] N.pre N.fn (qjY [(222, qdK)] [])
def qlK : Nat → Tree := fun _ => .done
def qmd : Nat → Nm := fun i => if i = 3 then qok else ⟨[], [], false⟩
def qrN : Nat → Option Jn := fun _ => none
def qor : Nat → Option Nm := fun i => if i = 0 then some qAa else none
def qss : Nat → Option Nm := fun _ => none
theorem zb1 : qj qlK (Tryz.f144.body.getD .skip) = true := by kernel_rfl
def qb8 (N : HN [i33] [i33, i4]) : Tab := { tr := qlK, lp := qmd, ex := qor, rg := qss, jn := qrN, fuel := N, sem := qrz N }
theorem qNy (N : HN [i33] [i33, i4]) : (qb8 N).pins = false := rfl
theorem q7v (N : HN [i33] [i33, i4]) : qk Tryz.prog (qb8 N) := qp fun _ => rfl
theorem qJ1 (N : HN [i33] [i33, i4]) : (qb8 N).sem = qrz N := rfl
theorem qLT (N : HN [i33] [i33, i4]) (i : Nat) : (qb8 N).tr i = qlK i := rfl
theorem qPU (N : HN [i33] [i33, i4]) (i : Nat) : (qb8 N).lp i = qmd i := rfl
theorem qMQ (N : HN [i33] [i33, i4]) (i : Nat) : (qb8 N).ex i = qor i := rfl
theorem qNH (N : HN [i33] [i33, i4]) (i : Nat) : (qb8 N).rg i = qss i := rfl
theorem qMS (N : HN [i33] [i33, i4]) (i : Nat) : (qb8 N).jn i = qrN i := rfl
theorem qJ2 (N : HN [i33] [i33, i4]) : (qb8 N).fuel = N := rfl
noncomputable def qRn : Code := cut [true, true, false, true, true, true] (Tryz.f144.body.getD .skip)
theorem qWZ {N : HN [i33] [i33, i4]} {Q : X → St → Option (qb [i50, i4])} {e : List LV} {h : List Blk} : qf tt qla (qb8 N) qRn Q ⟨e, h⟩ = qf tt qla (qb8 N) (cut [true, true, false, true, true, true] (Tryz.f144.body.getD .skip)) Q ⟨e, h⟩ := rfl
theorem zbS (N : HN [i33] [i33, i4]) (v1 : List (Val Y33)) (v2 : Int) (v4 : Int) {k0 : Int → (List (Val Y33)) → Option (qb [i50, i4])} {Q : X → St → Option (qb [i50, i4])} {c : Code} (hc : c = qRn) (hret : ∀ st, Q .ret st = qE tt true [i50, i4] [.cell 4 50, .tmp 5] st) (h0 : ∀ (v7 : Int) (v8 : List (Val Y33)), Q (.exit 0) ⟨[u, u, u, u, .one (.ptr 0 0 0), u, .one (.ptr 1 0 0), u, u, u, u, u, u, u, u, u, u, u, u, u, u, u, u, u, u, u, u, u, u, u, u, u, u, u, u, u, u, u], [.box [.int .i64 v4, .nils], .box [.int .i64 v7, .own 2], .row 33 Y33 v8 true true 0]⟩ = k0 v7 v8) : ∀ (n : Nat) (v3 : Int) (v5 : Int) (v6 : List (Val Y33)), qF (qf tt qla (qb8 N) c) false qok Q n ⟨[u, .one (.hdr N.fv), u, u, .one (.ptr 0 0 0), u, .one (.ptr 1 0 0), u, u, u, u, u, u, u, u, u, .one (.sl 33 Y33 v1 0), .one (.int .i64 v2), .one (.int .i64 v3), u, u, u, u, u, u, u, u, u, u, u, u, u, u, u, u, u, u, u], [.box [.int .i64 v4, .nils], .box [.int .i64 v5, .own 2], .row 33 Y33 v6 true true 0]⟩ = qjD N v1 v2 v4 k0 n v3 v5 v6 := by
  subst hc; intro n; induction n with
  | zero => intros; rfl
  | succ n ih =>
    intro v3 v5 v6
    rw [qM, qWZ, qjD]; unfold Tryz.f144
    simp (maxSteps := 10000000) -implicitDefEqProofs [qLT, qlK, qPU, qmd, qMQ, qor, qNH, qss, qMS, qrN, qJ2, qNy, qJ1, qrz, q9, qKa, qdK, qDk, qEQ, qIj, qOC, qJQ, qOp, hret, h0, ih]
theorem qXV (N : HN [i33] [i33, i4]) (v0 : Val Y50) : qf tt qla (qb8 N) (Tryz.f144.body.getD .skip) (qm tt true [i50, i4] [.cell 4 50, .tmp 5]) (qoZ i50 38 v0 N.fv) = qwI N v0 := by
  unfold Tryz.f144
  simp (maxSteps := 10000000) -implicitDefEqProofs [qLT, qlK, qPU, qmd, qMQ, qor, qNH, qss, qMS, qrN, qJ2, qNy, qJ1, qrz, q9, qKa, qdK, qDk, qEQ, qIj, qOC, qJQ, qOp]
  rewrite [zbS (k0 := (fun (v9 : Int) (v10 : List (Val Y33)) => some ((v9, v10), true, ()))) N _ _ _ ?_ ?_ ?_]
  · rewrite [qwI]; first | rfl | simp (maxSteps := 10000000) -implicitDefEqProofs []
  · rfl
  · intro; simp only [qK, qJ, qL, qC]
  · intro v9 v10; simp (maxSteps := 10000000) -implicitDefEqProofs [qLT, qlK, qPU, qmd, qMQ, qor, qNH, qss, qMS, qrN, qJ2, qNy, qJ1, qrz, q9, qKa, qdK, qDk, qEQ, qIj, qOC, qJQ, qOp]
def idC (c : Val Y33) : Val Y33 × Bool := (c, true)
def qgK : Gc [i33] [i33, i4] := { cs := [], pre := fun _ x => True, fn := fun _ x => ((idC x.1).1, (idC x.1).2, ()) }
theorem qZa : qgK.cs = [] := rfl
noncomputable def qA7 (N : Nat) (v0 : Val Y33) : Option (qb [i33, i4]) := some (v0, true, ())
def qTS : Gam := []
def quu : Nat → Tree := fun _ => .done
def qOF : Nat → Nm := fun _ => ⟨[], [], false⟩
def qCi : Nat → Option Jn := fun _ => none
def qGn : Nat → Option Nm := fun _ => none
def qOj : Nat → Option Nm := fun _ => none
theorem qXo : qj quu (Tryz.f211.body.getD .skip) = true := by kernel_rfl
def qdZ (N : Nat) : Tab := { tr := quu, lp := qOF, ex := qGn, rg := qOj, jn := qCi, fuel := N }
theorem q1y (N : Nat) : (qdZ N).pins = false := rfl
theorem q4y (N : Nat) : qk Tryz.prog (qdZ N) := qp fun _ => rfl
theorem q8T (N : Nat) (i : Nat) : (qdZ N).tr i = quu i := rfl
theorem zfd (N : Nat) (i : Nat) : (qdZ N).lp i = qOF i := rfl
theorem q0O (N : Nat) (i : Nat) : (qdZ N).ex i = qGn i := rfl
theorem q6x (N : Nat) (i : Nat) : (qdZ N).rg i = qOj i := rfl
theorem q5b (N : Nat) (i : Nat) : (qdZ N).jn i = qCi i := rfl
theorem zcb (N : Nat) : (qdZ N).fuel = N := rfl
theorem qVH (N : Nat) (v0 : Val Y33) : qf tt qTS (qdZ N) (Tryz.f211.body.getD .skip) (qm tt false [i33, i4] [.cell 2 33, .tmp 3]) (qoD [i33] [] 5 (()) (v0, ())) = qA7 N v0 := by
  rw [qA7]; unfold Tryz.f211
  simp (maxSteps := 10000000) -implicitDefEqProofs [q8T, quu, zfd, qOF, q0O, qGn, q6x, qOj, q5b, qCi, zcb, q1y]
  try rfl
def idF (x : qb [i33]) : qb [i33, i4] := (x.1, true, ())
def qap (r : Val Y50) : Val Y50 × Bool := bif qV r then qgq idF r else qaR
def qj5 : G := { ps := [i50], rs := [i50, i4], dp := true, pre := fun _ => True, fn := fun x => ((qap x.1).1, (qap x.1).2, ()) }
noncomputable def qzN (N : Nat) (v0 : Val Y50) : Option (qb [i50, i4]) := bif (!((qV v0) : Bool)) then (some (((0 : Int), ([] : List (Val Y33))), false, ())) else (chk (quQ (qgK.pre (())) (qgK.fn (())) v0) (some (((((qgq (qgK.fn (())) v0).1).1 : Int), (((qgq (qgK.fn (())) v0).1).2 : List (Val Y33))), ((qgq (qgK.fn (())) v0).2 : Bool), ())))
def qvj : Gam := [(124, qbC)]
theorem q2c : Gam.get qvj 124 = some qbC := rfl
theorem zbJ : Gam.get qvj 144 = none := rfl
def qHf : Sem := qjY [] [(144, ⟨qIb, [(211, qgK)]⟩)]
def quG : Nat → Tree := fun _ => .done
def qNw : Nat → Nm := fun _ => ⟨[], [], false⟩
def qAi : Nat → Option Jn := fun _ => none
def qBW : Nat → Option Nm := fun _ => none
def qH1 : Nat → Option Nm := fun _ => none
theorem qVx : qj quG (Tryz.f133.body.getD .skip) = true := by kernel_rfl
def qdw (N : Nat) : Tab := { tr := quG, lp := qNw, ex := qBW, rg := qH1, jn := qAi, fuel := N, sem := qHf }
theorem q4H (N : Nat) : (qdw N).pins = false := rfl
theorem q7F (N : Nat) : qk Tryz.prog (qdw N) := qp fun _ => rfl
theorem zei (N : Nat) : (qdw N).sem = qHf := rfl
theorem q1a (N : Nat) (i : Nat) : (qdw N).tr i = quG i := rfl
theorem q2M (N : Nat) (i : Nat) : (qdw N).lp i = qNw i := rfl
theorem qYF (N : Nat) (i : Nat) : (qdw N).ex i = qBW i := rfl
theorem zbk (N : Nat) (i : Nat) : (qdw N).rg i = qH1 i := rfl
theorem q0T (N : Nat) (i : Nat) : (qdw N).jn i = qAi i := rfl
theorem q08 (N : Nat) : (qdw N).fuel = N := rfl
theorem zdB (N : Nat) (v0 : Val Y50) : qf tt qvj (qdw N) (Tryz.f133.body.getD .skip) (qm tt true [i50, i4] [.cell 2 50, .tmp 3]) (qq [i50] 12 (v0, ())) = qzN N v0 := by
  rw [qzN]; unfold Tryz.f133
  simp (maxSteps := 10000000) -implicitDefEqProofs [q1a, quG, q2M, qNw, qYF, qBW, zbk, qH1, q0T, qAi, q08, q4H, zei, qHf, q9, zbJ, qIb, qZa, q2c, qbC]
  try rfl
def qwJ (r : Val Y50) : Prop := qbH r
def qj3 : G := { ps := [i50], rs := [i50, i4], dp := false, pre := fun x => qwJ x.1, fn := fun x => ((qap x.1).1, (qap x.1).2, ()) }
noncomputable def qgA (N : Nat) (v2 : Int) (v3 : List (Val Y33)) (v4 : Int) (k0 : Int → (List (Val Y33)) → Option (qb [i50, i4])) : Nat → Int → Int → (List (Val Y33)) → Option (qb [i50, i4])
  | 0, _, _, _ => none
  | n + 1, v1, v5, v6 => bif (decide (v1 < (v3.length : Int))) then (chk (0 ≤ v1 ∧ v1 < (v3.length : Int)) (chk (qkm (v5, v6) (v3.getD v1.toNat (qc Y33))) (bif (!((qa8 (v5, v6) (v3.getD v1.toNat (qc Y33))).2 : Bool)) then (some (((0 : Int), ([] : List (Val Y33))), false, ())) else (qgA N v2 v3 v4 k0 n (IntKind.i64.wrap (v1 + (1 : Int))) (((qa8 (v5, v6) (v3.getD v1.toNat (qc Y33))).1).1 : Int) (((qa8 (v5, v6) (v3.getD v1.toNat (qc Y33))).1).2 : List (Val Y33)))))) else (k0 v5 v6)
noncomputable def qzE (N : Nat) (v0 : Val Y50) : Option (qb [i50, i4]) := chk (qbH v0) (bif (!((qV v0) : Bool)) then (some (((0 : Int), ([] : List (Val Y33))), false, ())) else (qgA N (v0.1 : Int) (v0.2 : List (Val Y33)) (0 : Int) (fun (v9 : Int) (v10 : List (Val Y33)) => some ((v9, v10), true, ())) N (0 : Int) (v0.1 : Int) ([] : List (Val Y33))))
def qhB : Gam := [(117, qbc), (143, qcq)]
theorem qH9 : Gam.get qhB 117 = some qbc := rfl
theorem qH2 : Gam.get qhB 143 = some qcq := rfl
def qtB : Nm := ⟨[false, true, true, false, true, true], [.nsb 4 1 33 Y33], false⟩
theorem qOQ : qtB.zero = false := rfl
theorem qOx : qtB.fix = [.nsb 4 1 33 Y33] := rfl
theorem qNQ : qtB.keep = [false, true, true, false, true, true] := rfl
def qu2 : Nm := ⟨[false, false, true, false, true], [], false⟩
theorem qCI : qu2.zero = false := rfl
theorem qE6 : qu2.fix = [] := rfl
theorem qHz : qu2.keep = [false, false, true, false, true] := rfl
def qzM : Nm := ⟨[false, true, true, false, true, true, true, true], [], false⟩
theorem qPp : qzM.zero = false := rfl
theorem qP6 : qzM.fix = [] := rfl
theorem qEg : qzM.keep = [false, true, true, false, true, true, true, true] := rfl
def qko : Nat → Tree := fun i => if i = 7 then .first 3 (.grow 0 (.grow 1 (.grow 2 (.grow 4 (.grow 5 (.alt 6 (.first 7 (.first 8 (.first 9 (.alt 10 (.alt 11 (.quiet 12 .done) .stop) .stop)))) (.alt 10 (.alt 6 (.quiet 7 (.quiet 8 (.first 9 (.alt 11 (.quiet 12 .done) .stop)))) .stop) .stop))))))) else .done
def qp1 : Nat → Nm := fun i => if i = 5 then qtB else ⟨[], [], false⟩
def qpz : Nat → Option Jn := fun _ => none
def qsF : Nat → Option Nm := fun i => if i = 0 then some qu2 else none
def qpt : Nat → Option Nm := fun i => if i = 7 then some qzM else none
theorem zex : qj qko (Tryz.f131.body.getD .skip) = true := by kernel_rfl
def qcx (N : Nat) : Tab := { tr := qko, lp := qp1, ex := qsF, rg := qpt, jn := qpz, fuel := N }
theorem qIL (N : Nat) : (qcx N).pins = false := rfl
theorem q99 (N : Nat) : qk Tryz.prog (qcx N) := qp fun _ => rfl
theorem qF0 (N : Nat) (i : Nat) : (qcx N).tr i = qko i := rfl
theorem qPr (N : Nat) (i : Nat) : (qcx N).lp i = qp1 i := rfl
theorem qMP (N : Nat) (i : Nat) : (qcx N).ex i = qsF i := rfl
theorem qLw (N : Nat) (i : Nat) : (qcx N).rg i = qpt i := rfl
theorem qFR (N : Nat) (i : Nat) : (qcx N).jn i = qpz i := rfl
theorem qL4 (N : Nat) : (qcx N).fuel = N := rfl
noncomputable def qUB : Code := cut [true, true, true, false, true, true, true] (Tryz.f131.body.getD .skip)
theorem qXK {N : Nat} {Q : X → St → Option (qb [i50, i4])} {e : List LV} {h : List Blk} : qf tt qhB (qcx N) qUB Q ⟨e, h⟩ = qf tt qhB (qcx N) (cut [true, true, true, false, true, true, true] (Tryz.f131.body.getD .skip)) Q ⟨e, h⟩ := rfl
theorem q69 (N : Nat) (v2 : Int) (v3 : List (Val Y33)) (v4 : Int) {k0 : Int → (List (Val Y33)) → Option (qb [i50, i4])} {Q : X → St → Option (qb [i50, i4])} {c : Code} (hc : c = qUB) (hret : ∀ st, Q .ret st = qE tt false [i50, i4] [.cell 2 50, .tmp 3] st) (h0 : ∀ (v7 : Int) (v8 : List (Val Y33)), Q (.exit 0) ⟨[u, u, .one (.ptr 0 0 0), u, .one (.ptr 1 0 0), u, u, u, u, u, u, u, u, u, u, u, u, u, u, u, u, u, u, u, u, u, u, u, u, u, u, u, u, u, u, u, u], [.box [.int .i64 v4, .nils], .box [.int .i64 v7, .sl 33 Y33 v8 2]]⟩ = k0 v7 v8) : ∀ (n : Nat) (v1 : Int) (v5 : Int) (v6 : List (Val Y33)), qF (qf tt qhB (qcx N) c) false qtB Q n ⟨[u, .one (.ptr 0 0 0), .one (.ptr 1 0 0), u, .one (.ptr 2 0 0), .one (.int .i64 v1), u, u, u, u, u, u, u, u, u, u, u, u, u, u, u, u, u, u, u, u, u, u, u, u, u, u, u, u, u, u, u], [.box [.int .i64 v2, .sl 33 Y33 v3 3], .box [.int .i64 v4, .nils], .box [.int .i64 v5, .sl 33 Y33 v6 3]]⟩ = qgA N v2 v3 v4 k0 n v1 v5 v6 := by
  subst hc; intro n; induction n with
  | zero => intros; rfl
  | succ n ih =>
    intro v1 v5 v6
    rw [qM, qXK, qgA]; unfold Tryz.f131
    simp (maxSteps := 10000000) -implicitDefEqProofs [qF0, qko, qPr, qp1, qMP, qsF, qLw, qpt, qFR, qpz, qL4, qIL, qOx, qNQ, qOQ, qE6, qHz, qCI, qP6, qEg, qPp, qH9, qH2, qbc, qcq, hret, h0, ih]
theorem zeo (N : Nat) (v0 : Val Y50) : qf tt qhB (qcx N) (Tryz.f131.body.getD .skip) (qm tt false [i50, i4] [.cell 2 50, .tmp 3]) (qq [i50] 37 (v0, ())) = qzE N v0 := by
  unfold Tryz.f131
  simp (maxSteps := 10000000) -implicitDefEqProofs [qF0, qko, qPr, qp1, qMP, qsF, qLw, qpt, qFR, qpz, qL4, qIL, qOx, qNQ, qOQ, qE6, qHz, qCI, qP6, qEg, qPp, qH9, qH2, qbc, qcq]
  rewrite [q69 (k0 := (fun (v9 : Int) (v10 : List (Val Y33)) => some ((v9, v10), true, ()))) N _ _ _ ?_ ?_ ?_]
  · rewrite [qzE]; first | rfl | simp (maxSteps := 10000000) -implicitDefEqProofs []
  · rfl
  · intro; simp only [qK, qJ, qL, qC]
  · intro v9 v10; simp (maxSteps := 10000000) -implicitDefEqProofs [qF0, qko, qPr, qp1, qMP, qsF, qLw, qpt, qFR, qpz, qL4, qIL, qOx, qNQ, qOQ, qE6, qHz, qCI, qP6, qEg, qPp, qH9, qH2, qbc, qcq]
end Go.T
