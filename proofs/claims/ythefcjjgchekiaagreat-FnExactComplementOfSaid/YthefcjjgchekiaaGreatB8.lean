/- Mixed atoms. -/
import Derived.Test.YthefcjjgchekiaaGreatB6n
set_option linter.unusedSimpArgs false
set_option linter.unusedVariables false
namespace Go.T
open Go Go.Proofs
set_option maxHeartbeats 4000000
set_option maxRecDepth 100000
def qdg (p q : Int) (xs ys : List Int) : List Int := (List.zip xs ys).map fun z => p * z.1 + q * z.2
def q5 (a : Val qa) (p : Int) (b : Val qa) (q : Int) : Val qa × Bool :=
  bif qD a && qD b && decide (List.length (α := Int) a.1 = List.length (α := Int) b.1) && inR p 0 400000000 && inR q 0 400000000 then qv (qdg p q a.1 b.1) (p * a.2.1 + q * b.2.1) ((a.2.2 && decide (0 < p)) || (b.2.2 && decide (0 < q))) else (([], ((0 : Int), false)), false)
def qz7 (a : Val qa) (_ : Int) (b : Val qa) (_ : Int) : Prop := qba a ∧ qba b
def qeO : G := { ps := [qi, i3, qi, i3], rs := [qi, i4], dp := true, pre := fun _ => True, fn := fun x => ((q5 x.1 x.2.1 x.2.2.1 x.2.2.2.1).1, (q5 x.1 x.2.1 x.2.2.1 x.2.2.2.1).2, ()) }
def qeH : G := { ps := [qi, i3, qi, i3], rs := [qi, i4], dp := true, pre := fun x => qz7 x.1 x.2.1 x.2.2.1 x.2.2.2.1, fn := fun x => ((q5 x.1 x.2.1 x.2.2.1 x.2.2.2.1).1, (q5 x.1 x.2.1 x.2.2.1 x.2.2.2.1).2, ()) }
noncomputable def qgH (N : Nat) (v4 : Int) (v5 : Int) (v6 : Int) (v8 : List (Val (.int .i64))) (v9 : Int) (v10 : Bool) (v11 : List (Val (.int .i64))) (v12 : Int) (v13 : Bool) (v14 : Int) (v15 : Bool) (k0 : (List (Val (.int .i64))) → Option (qb [qi, i4])) : Nat → Int → (List (Val (.int .i64))) → Option (qb [qi, i4])
  | 0, _, _ => none
  | n + 1, v7, v16 => bif (decide (v7 < v6)) then (chk (0 ≤ v7 ∧ v7 < (v8.length : Int)) (chk (0 ≤ v7 ∧ v7 < (v11.length : Int)) (chk (0 ≤ v7 ∧ v7 < (v16.length : Int)) (chk (v7.toNat < v16.length) (qgH N v4 v5 v6 v8 v9 v10 v11 v12 v13 v14 v15 k0 n (IntKind.i64.wrap (v7 + (1 : Int))) (v16.set v7.toNat (IntKind.i64.wrap ((IntKind.i64.wrap (v4 * ((v8.getD v7.toNat (qc (.int .i64))) : Int))) + (IntKind.i64.wrap (v5 * ((v11.getD v7.toNat (qc (.int .i64))) : Int))))))))))) else (k0 v16)
noncomputable def qyu (N : Nat) (v0 : Val qa) (v1 : Int) (v2 : Val qa) (v3 : Int) : Option (qb [qi, i4]) := bif (!((qD v0) : Bool)) then (some ((([] : List (Val (.int .i64))), (0 : Int), false), false, ())) else (bif (!((qD v2) : Bool)) then (some ((([] : List (Val (.int .i64))), (0 : Int), false), false, ())) else (bif (!(decide (((v0.1 : List (Val (.int .i64))).length : Int) = ((v2.1 : List (Val (.int .i64))).length : Int)))) then (some ((([] : List (Val (.int .i64))), (0 : Int), false), false, ())) else (bif (decide (v1 < (0 : Int))) then (some ((([] : List (Val (.int .i64))), (0 : Int), false), false, ())) else (bif (decide ((400000000 : Int) < v1)) then (some ((([] : List (Val (.int .i64))), (0 : Int), false), false, ())) else (bif (decide (v3 < (0 : Int))) then (some ((([] : List (Val (.int .i64))), (0 : Int), false), false, ())) else (bif (decide ((400000000 : Int) < v3)) then (some ((([] : List (Val (.int .i64))), (0 : Int), false), false, ())) else (chk (0 ≤ ((v0.1 : List (Val (.int .i64))).length : Int) ∧ ((v0.1 : List (Val (.int .i64))).length : Int) ≤ ((v0.1 : List (Val (.int .i64))).length : Int) ∧ ((v0.1 : List (Val (.int .i64))).length : Int) ≤ 1048576) (qgH N v1 v3 ((List.replicate ((v0.1 : List (Val (.int .i64))).length : Int).toNat (qc (.int .i64))).length : Int) (v0.1 : List (Val (.int .i64))) (v0.2.1 : Int) (v0.2.2 : Bool) (v2.1 : List (Val (.int .i64))) (v2.2.1 : Int) (v2.2.2 : Bool) (0 : Int) false (fun (v18 : List (Val (.int .i64))) => bif (v0.2.2 : Bool) then (bif (!(decide (v1 = (0 : Int)))) then (chk (qaC v18 (IntKind.i64.wrap ((IntKind.i64.wrap (v1 * (v0.2.1 : Int))) + (IntKind.i64.wrap (v3 * (v2.2.1 : Int))))) true) (some (((((qv v18 (IntKind.i64.wrap ((IntKind.i64.wrap (v1 * (v0.2.1 : Int))) + (IntKind.i64.wrap (v3 * (v2.2.1 : Int))))) true).1).1 : List (Val (.int .i64))), ((((qv v18 (IntKind.i64.wrap ((IntKind.i64.wrap (v1 * (v0.2.1 : Int))) + (IntKind.i64.wrap (v3 * (v2.2.1 : Int))))) true).1).2).1 : Int), ((((qv v18 (IntKind.i64.wrap ((IntKind.i64.wrap (v1 * (v0.2.1 : Int))) + (IntKind.i64.wrap (v3 * (v2.2.1 : Int))))) true).1).2).2 : Bool)), ((qv v18 (IntKind.i64.wrap ((IntKind.i64.wrap (v1 * (v0.2.1 : Int))) + (IntKind.i64.wrap (v3 * (v2.2.1 : Int))))) true).2 : Bool), ()))) else (bif (v2.2.2 : Bool) then (chk (qaC v18 (IntKind.i64.wrap ((IntKind.i64.wrap (v1 * (v0.2.1 : Int))) + (IntKind.i64.wrap (v3 * (v2.2.1 : Int))))) (!(decide (v3 = (0 : Int))))) (some (((((qv v18 (IntKind.i64.wrap ((IntKind.i64.wrap (v1 * (v0.2.1 : Int))) + (IntKind.i64.wrap (v3 * (v2.2.1 : Int))))) (!(decide (v3 = (0 : Int))))).1).1 : List (Val (.int .i64))), ((((qv v18 (IntKind.i64.wrap ((IntKind.i64.wrap (v1 * (v0.2.1 : Int))) + (IntKind.i64.wrap (v3 * (v2.2.1 : Int))))) (!(decide (v3 = (0 : Int))))).1).2).1 : Int), ((((qv v18 (IntKind.i64.wrap ((IntKind.i64.wrap (v1 * (v0.2.1 : Int))) + (IntKind.i64.wrap (v3 * (v2.2.1 : Int))))) (!(decide (v3 = (0 : Int))))).1).2).2 : Bool)), ((qv v18 (IntKind.i64.wrap ((IntKind.i64.wrap (v1 * (v0.2.1 : Int))) + (IntKind.i64.wrap (v3 * (v2.2.1 : Int))))) (!(decide (v3 = (0 : Int))))).2 : Bool), ()))) else (chk (qaC v18 (IntKind.i64.wrap ((IntKind.i64.wrap (v1 * (v0.2.1 : Int))) + (IntKind.i64.wrap (v3 * (v2.2.1 : Int))))) false) (some (((((qv v18 (IntKind.i64.wrap ((IntKind.i64.wrap (v1 * (v0.2.1 : Int))) + (IntKind.i64.wrap (v3 * (v2.2.1 : Int))))) false).1).1 : List (Val (.int .i64))), ((((qv v18 (IntKind.i64.wrap ((IntKind.i64.wrap (v1 * (v0.2.1 : Int))) + (IntKind.i64.wrap (v3 * (v2.2.1 : Int))))) false).1).2).1 : Int), ((((qv v18 (IntKind.i64.wrap ((IntKind.i64.wrap (v1 * (v0.2.1 : Int))) + (IntKind.i64.wrap (v3 * (v2.2.1 : Int))))) false).1).2).2 : Bool)), ((qv v18 (IntKind.i64.wrap ((IntKind.i64.wrap (v1 * (v0.2.1 : Int))) + (IntKind.i64.wrap (v3 * (v2.2.1 : Int))))) false).2 : Bool), ()))))) else (bif (v2.2.2 : Bool) then (chk (qaC v18 (IntKind.i64.wrap ((IntKind.i64.wrap (v1 * (v0.2.1 : Int))) + (IntKind.i64.wrap (v3 * (v2.2.1 : Int))))) (!(decide (v3 = (0 : Int))))) (some (((((qv v18 (IntKind.i64.wrap ((IntKind.i64.wrap (v1 * (v0.2.1 : Int))) + (IntKind.i64.wrap (v3 * (v2.2.1 : Int))))) (!(decide (v3 = (0 : Int))))).1).1 : List (Val (.int .i64))), ((((qv v18 (IntKind.i64.wrap ((IntKind.i64.wrap (v1 * (v0.2.1 : Int))) + (IntKind.i64.wrap (v3 * (v2.2.1 : Int))))) (!(decide (v3 = (0 : Int))))).1).2).1 : Int), ((((qv v18 (IntKind.i64.wrap ((IntKind.i64.wrap (v1 * (v0.2.1 : Int))) + (IntKind.i64.wrap (v3 * (v2.2.1 : Int))))) (!(decide (v3 = (0 : Int))))).1).2).2 : Bool)), ((qv v18 (IntKind.i64.wrap ((IntKind.i64.wrap (v1 * (v0.2.1 : Int))) + (IntKind.i64.wrap (v3 * (v2.2.1 : Int))))) (!(decide (v3 = (0 : Int))))).2 : Bool), ()))) else (chk (qaC v18 (IntKind.i64.wrap ((IntKind.i64.wrap (v1 * (v0.2.1 : Int))) + (IntKind.i64.wrap (v3 * (v2.2.1 : Int))))) false) (some (((((qv v18 (IntKind.i64.wrap ((IntKind.i64.wrap (v1 * (v0.2.1 : Int))) + (IntKind.i64.wrap (v3 * (v2.2.1 : Int))))) false).1).1 : List (Val (.int .i64))), ((((qv v18 (IntKind.i64.wrap ((IntKind.i64.wrap (v1 * (v0.2.1 : Int))) + (IntKind.i64.wrap (v3 * (v2.2.1 : Int))))) false).1).2).1 : Int), ((((qv v18 (IntKind.i64.wrap ((IntKind.i64.wrap (v1 * (v0.2.1 : Int))) + (IntKind.i64.wrap (v3 * (v2.2.1 : Int))))) false).1).2).2 : Bool)), ((qv v18 (IntKind.i64.wrap ((IntKind.i64.wrap (v1 * (v0.2.1 : Int))) + (IntKind.i64.wrap (v3 * (v2.2.1 : Int))))) false).2 : Bool), ()))))) N (0 : Int) (List.replicate ((v0.1 : List (Val (.int .i64))).length : Int).toNat (qc (.int .i64)))))))))))
def qgV : Gam := [(207, qkS), (279, qaD)]
theorem qBu : Gam.get qgV 207 = some qkS := rfl
theorem qQf : Gam.get qgV 279 = some qaD := rfl
def qrv : Nm := ⟨[false, true, false, true, true, false, true, false, true, false, true, false, false, false, false, false, false, false, false, false, false, false, false, false, false, false, false, false, false, false, false, false, false, false, false, false, false, false, false, false, false, false, false, false, false, false, false, false, false, false, true, true], [], false⟩
theorem qFL : qrv.zero = false := rfl
theorem qK2 : qrv.fix = [] := rfl
theorem qHo : qrv.keep = [false, true, false, true, true, false, true, false, true, false, true, false, false, false, false, false, false, false, false, false, false, false, false, false, false, false, false, false, false, false, false, false, false, false, false, false, false, false, false, false, false, false, false, false, false, false, false, false, false, false, true, true] := rfl
def qub : Nm := ⟨[false, true, false, true, true, false, true, false, true, false, true], [], false⟩
theorem qNY : qub.zero = false := rfl
theorem qEb : qub.fix = [] := rfl
theorem qLh : qub.keep = [false, true, false, true, true, false, true, false, true, false, true] := rfl
def qlc : Nat → Tree := fun i => if i = 9 then .quiet 0 (.quiet 1 (.quiet 2 (.quiet 3 (.quiet 4 (.quiet 5 (.quiet 6 (.quiet 7 (.quiet 8 (.quiet 9 (.quiet 10 (.quiet 11 (.quiet 12 (.quiet 13 (.quiet 14 (.quiet 15 (.quiet 16 (.quiet 17 (.alt 18 .done .stop)))))))))))))))))) else .done
def qnn : Nat → Nm := fun i => if i = 7 then qrv else ⟨[], [], false⟩
def qqY : Nat → Option Jn := fun _ => none
def qmX : Nat → Option Nm := fun i => if i = 0 then some qub else none
def qte : Nat → Option Nm := fun _ => none
theorem q5D : qj qlc (Tryz.f293.body.getD .skip) = true := by kernel_rfl
def qc4 (N : Nat) : Tab := { tr := qlc, lp := qnn, ex := qmX, rg := qte, jn := qqY, fuel := N }
theorem qDv (N : Nat) : (qc4 N).pins = false := rfl
theorem q1B (N : Nat) : qk Tryz.prog (qc4 N) := qp fun _ => rfl
theorem qPc (N : Nat) (i : Nat) : (qc4 N).tr i = qlc i := rfl
theorem qKl (N : Nat) (i : Nat) : (qc4 N).lp i = qnn i := rfl
theorem qLk (N : Nat) (i : Nat) : (qc4 N).ex i = qmX i := rfl
theorem qOR (N : Nat) (i : Nat) : (qc4 N).rg i = qte i := rfl
theorem qPm (N : Nat) (i : Nat) : (qc4 N).jn i = qqY i := rfl
theorem qHS (N : Nat) : (qc4 N).fuel = N := rfl
noncomputable def qQP : Code := cut [true, true, true, true, false, true, true, true] (Tryz.f293.body.getD .skip)
theorem qYC {N : Nat} {Q : X → St → Option (qb [qi, i4])} {e : List LV} {h : List Blk} : qf tt qgV (qc4 N) qQP Q ⟨e, h⟩ = qf tt qgV (qc4 N) (cut [true, true, true, true, false, true, true, true] (Tryz.f293.body.getD .skip)) Q ⟨e, h⟩ := rfl
theorem qZe (N : Nat) (v4 : Int) (v5 : Int) (v6 : Int) (v8 : List (Val (.int .i64))) (v9 : Int) (v10 : Bool) (v11 : List (Val (.int .i64))) (v12 : Int) (v13 : Bool) (v14 : Int) (v15 : Bool) {k0 : (List (Val (.int .i64))) → Option (qb [qi, i4])} {Q : X → St → Option (qb [qi, i4])} {c : Code} (hc : c = qQP) (hret : ∀ st, Q .ret st = qE tt true [qi, i4] [.cell 8 108, .tmp 9] st) (h0 : ∀ (v17 : List (Val (.int .i64))), Q (.exit 0) ⟨[u, .one (.int .i64 v4), u, .one (.int .i64 v5), .one (.ptr 0 0 0), u, .one (.ptr 1 0 0), u, .one (.ptr 2 0 0), u, .one (.own 3), u, u, u, u, u, u, u, u, u, u, u, u, u, u, u, u, u, u, u, u, u, u, u, u, u, u, u, u, u, u, u, u, u, u, u, u, u, u, u, u, u, u, u, u, u, u, u, u, u, u, u, u, u, u, u, u, u, u, u, u, u, u, u, u, u, u, u, u, u, u, u, u, u, u, u, u, u, u, u, u, u, u, u, u, u, u, u, u, u], [.box [.sl 3 (.int .i64) v8 4, .int .i64 v9, .bool v10], .box [.sl 3 (.int .i64) v11 4, .int .i64 v12, .bool v13], .box [.nils, .int .i64 v14, .bool v15], .row 3 (.int .i64) v17 true true 0]⟩ = k0 v17) : ∀ (n : Nat) (v7 : Int) (v16 : List (Val (.int .i64))), qF (qf tt qgV (qc4 N) c) false qrv Q n ⟨[u, .one (.int .i64 v4), u, .one (.int .i64 v5), .one (.ptr 0 0 0), u, .one (.ptr 1 0 0), u, .one (.ptr 2 0 0), u, .one (.own 3), u, u, u, u, u, u, u, u, u, u, u, u, u, u, u, u, u, u, u, u, u, u, u, u, u, u, u, u, u, u, u, u, u, u, u, u, u, u, u, .one (.int .i64 v6), .one (.int .i64 v7), u, u, u, u, u, u, u, u, u, u, u, u, u, u, u, u, u, u, u, u, u, u, u, u, u, u, u, u, u, u, u, u, u, u, u, u, u, u, u, u, u, u, u, u, u, u, u, u], [.box [.sl 3 (.int .i64) v8 4, .int .i64 v9, .bool v10], .box [.sl 3 (.int .i64) v11 4, .int .i64 v12, .bool v13], .box [.nils, .int .i64 v14, .bool v15], .row 3 (.int .i64) v16 true true 0]⟩ = qgH N v4 v5 v6 v8 v9 v10 v11 v12 v13 v14 v15 k0 n v7 v16 := by
  subst hc; intro n; induction n with
  | zero => intros; rfl
  | succ n ih =>
    intro v7 v16
    rw [qM, qYC, qgH]; unfold Tryz.f293
    simp (maxSteps := 10000000) -implicitDefEqProofs [qPc, qlc, qKl, qnn, qLk, qmX, qOR, qte, qPm, qqY, qHS, qDv, qK2, qHo, qFL, qEb, qLh, qNY, qBu, qQf, qkS, qaD, hret, h0, ih]
theorem zeV (N : Nat) (v0 : Val qa) (v1 : Int) (v2 : Val qa) (v3 : Int) : qf tt qgV (qc4 N) (Tryz.f293.body.getD .skip) (qm tt true [qi, i4] [.cell 8 108, .tmp 9]) (qq [qi, i3, qi, i3] 100 (v0, v1, v2, v3, ())) = qyu N v0 v1 v2 v3 := by
  unfold Tryz.f293
  simp (maxSteps := 10000000) -implicitDefEqProofs [qPc, qlc, qKl, qnn, qLk, qmX, qOR, qte, qPm, qqY, qHS, qDv, qK2, qHo, qFL, qEb, qLh, qNY, qBu, qQf, qkS, qaD]
  rewrite [qZe (k0 := (fun (v18 : List (Val (.int .i64))) => bif (v0.2.2 : Bool) then (bif (!(decide (v1 = (0 : Int)))) then (chk (qaC v18 (IntKind.i64.wrap ((IntKind.i64.wrap (v1 * (v0.2.1 : Int))) + (IntKind.i64.wrap (v3 * (v2.2.1 : Int))))) true) (some (((((qv v18 (IntKind.i64.wrap ((IntKind.i64.wrap (v1 * (v0.2.1 : Int))) + (IntKind.i64.wrap (v3 * (v2.2.1 : Int))))) true).1).1 : List (Val (.int .i64))), ((((qv v18 (IntKind.i64.wrap ((IntKind.i64.wrap (v1 * (v0.2.1 : Int))) + (IntKind.i64.wrap (v3 * (v2.2.1 : Int))))) true).1).2).1 : Int), ((((qv v18 (IntKind.i64.wrap ((IntKind.i64.wrap (v1 * (v0.2.1 : Int))) + (IntKind.i64.wrap (v3 * (v2.2.1 : Int))))) true).1).2).2 : Bool)), ((qv v18 (IntKind.i64.wrap ((IntKind.i64.wrap (v1 * (v0.2.1 : Int))) + (IntKind.i64.wrap (v3 * (v2.2.1 : Int))))) true).2 : Bool), ()))) else (bif (v2.2.2 : Bool) then (chk (qaC v18 (IntKind.i64.wrap ((IntKind.i64.wrap (v1 * (v0.2.1 : Int))) + (IntKind.i64.wrap (v3 * (v2.2.1 : Int))))) (!(decide (v3 = (0 : Int))))) (some (((((qv v18 (IntKind.i64.wrap ((IntKind.i64.wrap (v1 * (v0.2.1 : Int))) + (IntKind.i64.wrap (v3 * (v2.2.1 : Int))))) (!(decide (v3 = (0 : Int))))).1).1 : List (Val (.int .i64))), ((((qv v18 (IntKind.i64.wrap ((IntKind.i64.wrap (v1 * (v0.2.1 : Int))) + (IntKind.i64.wrap (v3 * (v2.2.1 : Int))))) (!(decide (v3 = (0 : Int))))).1).2).1 : Int), ((((qv v18 (IntKind.i64.wrap ((IntKind.i64.wrap (v1 * (v0.2.1 : Int))) + (IntKind.i64.wrap (v3 * (v2.2.1 : Int))))) (!(decide (v3 = (0 : Int))))).1).2).2 : Bool)), ((qv v18 (IntKind.i64.wrap ((IntKind.i64.wrap (v1 * (v0.2.1 : Int))) + (IntKind.i64.wrap (v3 * (v2.2.1 : Int))))) (!(decide (v3 = (0 : Int))))).2 : Bool), ()))) else (chk (qaC v18 (IntKind.i64.wrap ((IntKind.i64.wrap (v1 * (v0.2.1 : Int))) + (IntKind.i64.wrap (v3 * (v2.2.1 : Int))))) false) (some (((((qv v18 (IntKind.i64.wrap ((IntKind.i64.wrap (v1 * (v0.2.1 : Int))) + (IntKind.i64.wrap (v3 * (v2.2.1 : Int))))) false).1).1 : List (Val (.int .i64))), ((((qv v18 (IntKind.i64.wrap ((IntKind.i64.wrap (v1 * (v0.2.1 : Int))) + (IntKind.i64.wrap (v3 * (v2.2.1 : Int))))) false).1).2).1 : Int), ((((qv v18 (IntKind.i64.wrap ((IntKind.i64.wrap (v1 * (v0.2.1 : Int))) + (IntKind.i64.wrap (v3 * (v2.2.1 : Int))))) false).1).2).2 : Bool)), ((qv v18 (IntKind.i64.wrap ((IntKind.i64.wrap (v1 * (v0.2.1 : Int))) + (IntKind.i64.wrap (v3 * (v2.2.1 : Int))))) false).2 : Bool), ()))))) else (bif (v2.2.2 : Bool) then (chk (qaC v18 (IntKind.i64.wrap ((IntKind.i64.wrap (v1 * (v0.2.1 : Int))) + (IntKind.i64.wrap (v3 * (v2.2.1 : Int))))) (!(decide (v3 = (0 : Int))))) (some (((((qv v18 (IntKind.i64.wrap ((IntKind.i64.wrap (v1 * (v0.2.1 : Int))) + (IntKind.i64.wrap (v3 * (v2.2.1 : Int))))) (!(decide (v3 = (0 : Int))))).1).1 : List (Val (.int .i64))), ((((qv v18 (IntKind.i64.wrap ((IntKind.i64.wrap (v1 * (v0.2.1 : Int))) + (IntKind.i64.wrap (v3 * (v2.2.1 : Int))))) (!(decide (v3 = (0 : Int))))).1).2).1 : Int), ((((qv v18 (IntKind.i64.wrap ((IntKind.i64.wrap (v1 * (v0.2.1 : Int))) + (IntKind.i64.wrap (v3 * (v2.2.1 : Int))))) (!(decide (v3 = (0 : Int))))).1).2).2 : Bool)), ((qv v18 (IntKind.i64.wrap ((IntKind.i64.wrap (v1 * (v0.2.1 : Int))) + (IntKind.i64.wrap (v3 * (v2.2.1 : Int))))) (!(decide (v3 = (0 : Int))))).2 : Bool), ()))) else (chk (qaC v18 (IntKind.i64.wrap ((IntKind.i64.wrap (v1 * (v0.2.1 : Int))) + (IntKind.i64.wrap (v3 * (v2.2.1 : Int))))) false) (some (((((qv v18 (IntKind.i64.wrap ((IntKind.i64.wrap (v1 * (v0.2.1 : Int))) + (IntKind.i64.wrap (v3 * (v2.2.1 : Int))))) false).1).1 : List (Val (.int .i64))), ((((qv v18 (IntKind.i64.wrap ((IntKind.i64.wrap (v1 * (v0.2.1 : Int))) + (IntKind.i64.wrap (v3 * (v2.2.1 : Int))))) false).1).2).1 : Int), ((((qv v18 (IntKind.i64.wrap ((IntKind.i64.wrap (v1 * (v0.2.1 : Int))) + (IntKind.i64.wrap (v3 * (v2.2.1 : Int))))) false).1).2).2 : Bool)), ((qv v18 (IntKind.i64.wrap ((IntKind.i64.wrap (v1 * (v0.2.1 : Int))) + (IntKind.i64.wrap (v3 * (v2.2.1 : Int))))) false).2 : Bool), ())))))) N _ _ _ _ _ _ _ _ _ _ _ ?_ ?_ ?_]
  · rewrite [qyu]; first | rfl | simp (maxSteps := 10000000) -implicitDefEqProofs []
  · rfl
  · intro; simp only [qK, qJ, qL, qC]
  · intro v18; simp (maxSteps := 10000000) -implicitDefEqProofs [qPc, qlc, qKl, qnn, qLk, qmX, qOR, qte, qPm, qqY, qHS, qDv, qK2, qHo, qFL, qEb, qLh, qNY, qBu, qQf, qkS, qaD]
noncomputable def qfH (N : Nat) (v4 : Int) (v5 : Int) (v7 : List (Val (.int .i64))) (v8 : Int) (v9 : Bool) (v10 : List (Val (.int .i64))) (v11 : Int) (v12 : Bool) (v13 : Int) (v14 : Bool) (k0 : (List (Val (.int .i64))) → Option (qb [qi, i4])) : Nat → Int → (List (Val (.int .i64))) → Option (qb [qi, i4])
  | 0, _, _ => none
  | n + 1, v6, v15 => bif (decide (v6 < (v7.length : Int))) then (chk (0 ≤ v6 ∧ v6 < (v7.length : Int)) (chk (0 ≤ v6 ∧ v6 < (v10.length : Int)) (chk (v15.length + ([(IntKind.i64.wrap ((IntKind.i64.wrap (v4 * ((v7.getD v6.toNat (qc (.int .i64))) : Int))) + (IntKind.i64.wrap (v5 * ((v10.getD v6.toNat (qc (.int .i64))) : Int)))))] : List (Val (.int .i64))).length ≤ 1048576) (qfH N v4 v5 v7 v8 v9 v10 v11 v12 v13 v14 k0 n (IntKind.i64.wrap (v6 + (1 : Int))) (v15 ++ ([(IntKind.i64.wrap ((IntKind.i64.wrap (v4 * ((v7.getD v6.toNat (qc (.int .i64))) : Int))) + (IntKind.i64.wrap (v5 * ((v10.getD v6.toNat (qc (.int .i64))) : Int)))))] : List (Val (.int .i64)))))))) else (k0 v15)
noncomputable def qxs (N : Nat) (v0 : Val qa) (v1 : Int) (v2 : Val qa) (v3 : Int) : Option (qb [qi, i4]) := bif (!((qD v0) : Bool)) then (some ((([] : List (Val (.int .i64))), (0 : Int), false), false, ())) else (bif (!((qD v2) : Bool)) then (some ((([] : List (Val (.int .i64))), (0 : Int), false), false, ())) else (bif (!(decide (((v0.1 : List (Val (.int .i64))).length : Int) = ((v2.1 : List (Val (.int .i64))).length : Int)))) then (some ((([] : List (Val (.int .i64))), (0 : Int), false), false, ())) else (bif (!((inR v1 (0 : Int) (400000000 : Int)) : Bool)) then (some ((([] : List (Val (.int .i64))), (0 : Int), false), false, ())) else (bif (!((inR v3 (0 : Int) (400000000 : Int)) : Bool)) then (some ((([] : List (Val (.int .i64))), (0 : Int), false), false, ())) else (qfH N v1 v3 (v0.1 : List (Val (.int .i64))) (v0.2.1 : Int) (v0.2.2 : Bool) (v2.1 : List (Val (.int .i64))) (v2.2.1 : Int) (v2.2.2 : Bool) (0 : Int) false (fun (v17 : List (Val (.int .i64))) => bif (v0.2.2 : Bool) then (bif (decide ((0 : Int) < v1)) then (chk (qaC v17 (IntKind.i64.wrap ((IntKind.i64.wrap (v1 * (v0.2.1 : Int))) + (IntKind.i64.wrap (v3 * (v2.2.1 : Int))))) true) (some (((((qv v17 (IntKind.i64.wrap ((IntKind.i64.wrap (v1 * (v0.2.1 : Int))) + (IntKind.i64.wrap (v3 * (v2.2.1 : Int))))) true).1).1 : List (Val (.int .i64))), ((((qv v17 (IntKind.i64.wrap ((IntKind.i64.wrap (v1 * (v0.2.1 : Int))) + (IntKind.i64.wrap (v3 * (v2.2.1 : Int))))) true).1).2).1 : Int), ((((qv v17 (IntKind.i64.wrap ((IntKind.i64.wrap (v1 * (v0.2.1 : Int))) + (IntKind.i64.wrap (v3 * (v2.2.1 : Int))))) true).1).2).2 : Bool)), ((qv v17 (IntKind.i64.wrap ((IntKind.i64.wrap (v1 * (v0.2.1 : Int))) + (IntKind.i64.wrap (v3 * (v2.2.1 : Int))))) true).2 : Bool), ()))) else (bif (v2.2.2 : Bool) then (chk (qaC v17 (IntKind.i64.wrap ((IntKind.i64.wrap (v1 * (v0.2.1 : Int))) + (IntKind.i64.wrap (v3 * (v2.2.1 : Int))))) (decide ((0 : Int) < v3))) (some (((((qv v17 (IntKind.i64.wrap ((IntKind.i64.wrap (v1 * (v0.2.1 : Int))) + (IntKind.i64.wrap (v3 * (v2.2.1 : Int))))) (decide ((0 : Int) < v3))).1).1 : List (Val (.int .i64))), ((((qv v17 (IntKind.i64.wrap ((IntKind.i64.wrap (v1 * (v0.2.1 : Int))) + (IntKind.i64.wrap (v3 * (v2.2.1 : Int))))) (decide ((0 : Int) < v3))).1).2).1 : Int), ((((qv v17 (IntKind.i64.wrap ((IntKind.i64.wrap (v1 * (v0.2.1 : Int))) + (IntKind.i64.wrap (v3 * (v2.2.1 : Int))))) (decide ((0 : Int) < v3))).1).2).2 : Bool)), ((qv v17 (IntKind.i64.wrap ((IntKind.i64.wrap (v1 * (v0.2.1 : Int))) + (IntKind.i64.wrap (v3 * (v2.2.1 : Int))))) (decide ((0 : Int) < v3))).2 : Bool), ()))) else (chk (qaC v17 (IntKind.i64.wrap ((IntKind.i64.wrap (v1 * (v0.2.1 : Int))) + (IntKind.i64.wrap (v3 * (v2.2.1 : Int))))) false) (some (((((qv v17 (IntKind.i64.wrap ((IntKind.i64.wrap (v1 * (v0.2.1 : Int))) + (IntKind.i64.wrap (v3 * (v2.2.1 : Int))))) false).1).1 : List (Val (.int .i64))), ((((qv v17 (IntKind.i64.wrap ((IntKind.i64.wrap (v1 * (v0.2.1 : Int))) + (IntKind.i64.wrap (v3 * (v2.2.1 : Int))))) false).1).2).1 : Int), ((((qv v17 (IntKind.i64.wrap ((IntKind.i64.wrap (v1 * (v0.2.1 : Int))) + (IntKind.i64.wrap (v3 * (v2.2.1 : Int))))) false).1).2).2 : Bool)), ((qv v17 (IntKind.i64.wrap ((IntKind.i64.wrap (v1 * (v0.2.1 : Int))) + (IntKind.i64.wrap (v3 * (v2.2.1 : Int))))) false).2 : Bool), ()))))) else (bif (v2.2.2 : Bool) then (chk (qaC v17 (IntKind.i64.wrap ((IntKind.i64.wrap (v1 * (v0.2.1 : Int))) + (IntKind.i64.wrap (v3 * (v2.2.1 : Int))))) (decide ((0 : Int) < v3))) (some (((((qv v17 (IntKind.i64.wrap ((IntKind.i64.wrap (v1 * (v0.2.1 : Int))) + (IntKind.i64.wrap (v3 * (v2.2.1 : Int))))) (decide ((0 : Int) < v3))).1).1 : List (Val (.int .i64))), ((((qv v17 (IntKind.i64.wrap ((IntKind.i64.wrap (v1 * (v0.2.1 : Int))) + (IntKind.i64.wrap (v3 * (v2.2.1 : Int))))) (decide ((0 : Int) < v3))).1).2).1 : Int), ((((qv v17 (IntKind.i64.wrap ((IntKind.i64.wrap (v1 * (v0.2.1 : Int))) + (IntKind.i64.wrap (v3 * (v2.2.1 : Int))))) (decide ((0 : Int) < v3))).1).2).2 : Bool)), ((qv v17 (IntKind.i64.wrap ((IntKind.i64.wrap (v1 * (v0.2.1 : Int))) + (IntKind.i64.wrap (v3 * (v2.2.1 : Int))))) (decide ((0 : Int) < v3))).2 : Bool), ()))) else (chk (qaC v17 (IntKind.i64.wrap ((IntKind.i64.wrap (v1 * (v0.2.1 : Int))) + (IntKind.i64.wrap (v3 * (v2.2.1 : Int))))) false) (some (((((qv v17 (IntKind.i64.wrap ((IntKind.i64.wrap (v1 * (v0.2.1 : Int))) + (IntKind.i64.wrap (v3 * (v2.2.1 : Int))))) false).1).1 : List (Val (.int .i64))), ((((qv v17 (IntKind.i64.wrap ((IntKind.i64.wrap (v1 * (v0.2.1 : Int))) + (IntKind.i64.wrap (v3 * (v2.2.1 : Int))))) false).1).2).1 : Int), ((((qv v17 (IntKind.i64.wrap ((IntKind.i64.wrap (v1 * (v0.2.1 : Int))) + (IntKind.i64.wrap (v3 * (v2.2.1 : Int))))) false).1).2).2 : Bool)), ((qv v17 (IntKind.i64.wrap ((IntKind.i64.wrap (v1 * (v0.2.1 : Int))) + (IntKind.i64.wrap (v3 * (v2.2.1 : Int))))) false).2 : Bool), ()))))) N (0 : Int) ([] : List (Val (.int .i64))))))))
def qfM : Gam := [(118, qbh), (149, qke), (193, qaY)]
theorem qKS : Gam.get qfM 118 = some qbh := rfl
theorem qOG : Gam.get qfM 149 = some qke := rfl
theorem qJq : Gam.get qfM 193 = some qaY := rfl
def qpY : Nm := ⟨[false, true, false, true, true, false, true, false, true, false, true, true], [], false⟩
theorem qO2 : qpY.zero = false := rfl
theorem qFT : qpY.fix = [] := rfl
theorem qLs : qpY.keep = [false, true, false, true, true, false, true, false, true, false, true, true] := rfl
def qyO : Nm := ⟨[false, true, false, true, true, false, true, false, true, false, true], [], false⟩
theorem qPO : qyO.zero = false := rfl
theorem qAO : qyO.fix = [] := rfl
theorem qFh : qyO.keep = [false, true, false, true, true, false, true, false, true, false, true] := rfl
def qjR : Nat → Tree := fun i => if i = 7 then .quiet 1 (.quiet 2 (.quiet 3 (.quiet 4 (.quiet 5 (.quiet 6 (.quiet 7 (.quiet 8 (.quiet 9 (.quiet 10 (.quiet 11 (.quiet 12 (.quiet 13 (.quiet 14 (.quiet 15 (.first 0 (.alt 16 (.alt 17 (.quiet 18 .done) .stop) .stop)))))))))))))))) else .done
def qrc : Nat → Nm := fun i => if i = 5 then qpY else ⟨[], [], false⟩
def qm9 : Nat → Option Jn := fun _ => none
def qmU : Nat → Option Nm := fun i => if i = 0 then some qyO else none
def qnV : Nat → Option Nm := fun _ => none
theorem q79 : qj qjR (Tryz.f235.body.getD .skip) = true := by kernel_rfl
def qcv (N : Nat) : Tab := { tr := qjR, lp := qrc, ex := qmU, rg := qnV, jn := qm9, fuel := N }
theorem qLU (N : Nat) : (qcv N).pins = false := rfl
theorem q9n (N : Nat) : qk Tryz.prog (qcv N) := qp fun _ => rfl
theorem qH4 (N : Nat) (i : Nat) : (qcv N).tr i = qjR i := rfl
theorem qAk (N : Nat) (i : Nat) : (qcv N).lp i = qrc i := rfl
theorem qBb (N : Nat) (i : Nat) : (qcv N).ex i = qmU i := rfl
theorem qPd (N : Nat) (i : Nat) : (qcv N).rg i = qnV i := rfl
theorem qMq (N : Nat) (i : Nat) : (qcv N).jn i = qm9 i := rfl
theorem qNz (N : Nat) : (qcv N).fuel = N := rfl
noncomputable def qTG : Code := cut [true, true, true, false, true, true, true] (Tryz.f235.body.getD .skip)
theorem zaU {N : Nat} {Q : X → St → Option (qb [qi, i4])} {e : List LV} {h : List Blk} : qf tt qfM (qcv N) qTG Q ⟨e, h⟩ = qf tt qfM (qcv N) (cut [true, true, true, false, true, true, true] (Tryz.f235.body.getD .skip)) Q ⟨e, h⟩ := rfl
theorem q4b (N : Nat) (v4 : Int) (v5 : Int) (v7 : List (Val (.int .i64))) (v8 : Int) (v9 : Bool) (v10 : List (Val (.int .i64))) (v11 : Int) (v12 : Bool) (v13 : Int) (v14 : Bool) {k0 : (List (Val (.int .i64))) → Option (qb [qi, i4])} {Q : X → St → Option (qb [qi, i4])} {c : Code} (hc : c = qTG) (hret : ∀ st, Q .ret st = qE tt true [qi, i4] [.cell 8 108, .tmp 9] st) (h0 : ∀ (v16 : List (Val (.int .i64))), Q (.exit 0) ⟨[u, .one (.int .i64 v4), u, .one (.int .i64 v5), .one (.ptr 0 0 0), u, .one (.ptr 1 0 0), u, .one (.ptr 2 0 0), u, .one (.own 3), u, u, u, u, u, u, u, u, u, u, u, u, u, u, u, u, u, u, u, u, u, u, u, u, u, u, u, u, u, u, u, u, u, u, u, u, u, u, u, u, u, u, u, u, u, u, u, u, u, u, u, u, u, u, u, u, u, u, u, u, u, u, u, u, u, u, u, u, u, u, u, u, u, u, u, u, u, u, u, u, u, u, u, u, u, u, u], [.box [.sl 3 (.int .i64) v7 4, .int .i64 v8, .bool v9], .box [.sl 3 (.int .i64) v10 4, .int .i64 v11, .bool v12], .box [.nils, .int .i64 v13, .bool v14], .row 3 (.int .i64) v16 true true 0]⟩ = k0 v16) : ∀ (n : Nat) (v6 : Int) (v15 : List (Val (.int .i64))), qF (qf tt qfM (qcv N) c) false qpY Q n ⟨[u, .one (.int .i64 v4), u, .one (.int .i64 v5), .one (.ptr 0 0 0), u, .one (.ptr 1 0 0), u, .one (.ptr 2 0 0), u, .one (.own 3), .one (.int .i64 v6), u, u, u, u, u, u, u, u, u, u, u, u, u, u, u, u, u, u, u, u, u, u, u, u, u, u, u, u, u, u, u, u, u, u, u, u, u, u, u, u, u, u, u, u, u, u, u, u, u, u, u, u, u, u, u, u, u, u, u, u, u, u, u, u, u, u, u, u, u, u, u, u, u, u, u, u, u, u, u, u, u, u, u, u, u, u], [.box [.sl 3 (.int .i64) v7 4, .int .i64 v8, .bool v9], .box [.sl 3 (.int .i64) v10 4, .int .i64 v11, .bool v12], .box [.nils, .int .i64 v13, .bool v14], .row 3 (.int .i64) v15 true true 0]⟩ = qfH N v4 v5 v7 v8 v9 v10 v11 v12 v13 v14 k0 n v6 v15 := by
  subst hc; intro n; induction n with
  | zero => intros; rfl
  | succ n ih =>
    intro v6 v15
    rw [qM, zaU, qfH]; unfold Tryz.f235
    simp (maxSteps := 10000000) -implicitDefEqProofs [qH4, qjR, qAk, qrc, qBb, qmU, qPd, qnV, qMq, qm9, qNz, qLU, qFT, qLs, qO2, qAO, qFh, qPO, qKS, qOG, qJq, qbh, qke, qaY, hret, h0, ih]
theorem q7T (N : Nat) (v0 : Val qa) (v1 : Int) (v2 : Val qa) (v3 : Int) : qf tt qfM (qcv N) (Tryz.f235.body.getD .skip) (qm tt true [qi, i4] [.cell 8 108, .tmp 9]) (qq [qi, i3, qi, i3] 98 (v0, v1, v2, v3, ())) = qxs N v0 v1 v2 v3 := by
  unfold Tryz.f235
  simp (maxSteps := 10000000) -implicitDefEqProofs [qH4, qjR, qAk, qrc, qBb, qmU, qPd, qnV, qMq, qm9, qNz, qLU, qFT, qLs, qO2, qAO, qFh, qPO, qKS, qOG, qJq, qbh, qke, qaY]
  rewrite [q4b (k0 := (fun (v17 : List (Val (.int .i64))) => bif (v0.2.2 : Bool) then (bif (decide ((0 : Int) < v1)) then (chk (qaC v17 (IntKind.i64.wrap ((IntKind.i64.wrap (v1 * (v0.2.1 : Int))) + (IntKind.i64.wrap (v3 * (v2.2.1 : Int))))) true) (some (((((qv v17 (IntKind.i64.wrap ((IntKind.i64.wrap (v1 * (v0.2.1 : Int))) + (IntKind.i64.wrap (v3 * (v2.2.1 : Int))))) true).1).1 : List (Val (.int .i64))), ((((qv v17 (IntKind.i64.wrap ((IntKind.i64.wrap (v1 * (v0.2.1 : Int))) + (IntKind.i64.wrap (v3 * (v2.2.1 : Int))))) true).1).2).1 : Int), ((((qv v17 (IntKind.i64.wrap ((IntKind.i64.wrap (v1 * (v0.2.1 : Int))) + (IntKind.i64.wrap (v3 * (v2.2.1 : Int))))) true).1).2).2 : Bool)), ((qv v17 (IntKind.i64.wrap ((IntKind.i64.wrap (v1 * (v0.2.1 : Int))) + (IntKind.i64.wrap (v3 * (v2.2.1 : Int))))) true).2 : Bool), ()))) else (bif (v2.2.2 : Bool) then (chk (qaC v17 (IntKind.i64.wrap ((IntKind.i64.wrap (v1 * (v0.2.1 : Int))) + (IntKind.i64.wrap (v3 * (v2.2.1 : Int))))) (decide ((0 : Int) < v3))) (some (((((qv v17 (IntKind.i64.wrap ((IntKind.i64.wrap (v1 * (v0.2.1 : Int))) + (IntKind.i64.wrap (v3 * (v2.2.1 : Int))))) (decide ((0 : Int) < v3))).1).1 : List (Val (.int .i64))), ((((qv v17 (IntKind.i64.wrap ((IntKind.i64.wrap (v1 * (v0.2.1 : Int))) + (IntKind.i64.wrap (v3 * (v2.2.1 : Int))))) (decide ((0 : Int) < v3))).1).2).1 : Int), ((((qv v17 (IntKind.i64.wrap ((IntKind.i64.wrap (v1 * (v0.2.1 : Int))) + (IntKind.i64.wrap (v3 * (v2.2.1 : Int))))) (decide ((0 : Int) < v3))).1).2).2 : Bool)), ((qv v17 (IntKind.i64.wrap ((IntKind.i64.wrap (v1 * (v0.2.1 : Int))) + (IntKind.i64.wrap (v3 * (v2.2.1 : Int))))) (decide ((0 : Int) < v3))).2 : Bool), ()))) else (chk (qaC v17 (IntKind.i64.wrap ((IntKind.i64.wrap (v1 * (v0.2.1 : Int))) + (IntKind.i64.wrap (v3 * (v2.2.1 : Int))))) false) (some (((((qv v17 (IntKind.i64.wrap ((IntKind.i64.wrap (v1 * (v0.2.1 : Int))) + (IntKind.i64.wrap (v3 * (v2.2.1 : Int))))) false).1).1 : List (Val (.int .i64))), ((((qv v17 (IntKind.i64.wrap ((IntKind.i64.wrap (v1 * (v0.2.1 : Int))) + (IntKind.i64.wrap (v3 * (v2.2.1 : Int))))) false).1).2).1 : Int), ((((qv v17 (IntKind.i64.wrap ((IntKind.i64.wrap (v1 * (v0.2.1 : Int))) + (IntKind.i64.wrap (v3 * (v2.2.1 : Int))))) false).1).2).2 : Bool)), ((qv v17 (IntKind.i64.wrap ((IntKind.i64.wrap (v1 * (v0.2.1 : Int))) + (IntKind.i64.wrap (v3 * (v2.2.1 : Int))))) false).2 : Bool), ()))))) else (bif (v2.2.2 : Bool) then (chk (qaC v17 (IntKind.i64.wrap ((IntKind.i64.wrap (v1 * (v0.2.1 : Int))) + (IntKind.i64.wrap (v3 * (v2.2.1 : Int))))) (decide ((0 : Int) < v3))) (some (((((qv v17 (IntKind.i64.wrap ((IntKind.i64.wrap (v1 * (v0.2.1 : Int))) + (IntKind.i64.wrap (v3 * (v2.2.1 : Int))))) (decide ((0 : Int) < v3))).1).1 : List (Val (.int .i64))), ((((qv v17 (IntKind.i64.wrap ((IntKind.i64.wrap (v1 * (v0.2.1 : Int))) + (IntKind.i64.wrap (v3 * (v2.2.1 : Int))))) (decide ((0 : Int) < v3))).1).2).1 : Int), ((((qv v17 (IntKind.i64.wrap ((IntKind.i64.wrap (v1 * (v0.2.1 : Int))) + (IntKind.i64.wrap (v3 * (v2.2.1 : Int))))) (decide ((0 : Int) < v3))).1).2).2 : Bool)), ((qv v17 (IntKind.i64.wrap ((IntKind.i64.wrap (v1 * (v0.2.1 : Int))) + (IntKind.i64.wrap (v3 * (v2.2.1 : Int))))) (decide ((0 : Int) < v3))).2 : Bool), ()))) else (chk (qaC v17 (IntKind.i64.wrap ((IntKind.i64.wrap (v1 * (v0.2.1 : Int))) + (IntKind.i64.wrap (v3 * (v2.2.1 : Int))))) false) (some (((((qv v17 (IntKind.i64.wrap ((IntKind.i64.wrap (v1 * (v0.2.1 : Int))) + (IntKind.i64.wrap (v3 * (v2.2.1 : Int))))) false).1).1 : List (Val (.int .i64))), ((((qv v17 (IntKind.i64.wrap ((IntKind.i64.wrap (v1 * (v0.2.1 : Int))) + (IntKind.i64.wrap (v3 * (v2.2.1 : Int))))) false).1).2).1 : Int), ((((qv v17 (IntKind.i64.wrap ((IntKind.i64.wrap (v1 * (v0.2.1 : Int))) + (IntKind.i64.wrap (v3 * (v2.2.1 : Int))))) false).1).2).2 : Bool)), ((qv v17 (IntKind.i64.wrap ((IntKind.i64.wrap (v1 * (v0.2.1 : Int))) + (IntKind.i64.wrap (v3 * (v2.2.1 : Int))))) false).2 : Bool), ())))))) N _ _ _ _ _ _ _ _ _ _ ?_ ?_ ?_]
  · rewrite [qxs]; first | rfl | simp (maxSteps := 10000000) -implicitDefEqProofs []
  · rfl
  · intro; simp only [qK, qJ, qL, qC]
  · intro v17; simp (maxSteps := 10000000) -implicitDefEqProofs [qH4, qjR, qAk, qrc, qBb, qmU, qPd, qnV, qMq, qm9, qNz, qLU, qFT, qLs, qO2, qAO, qFh, qPO, qKS, qOG, qJq, qbh, qke, qaY]
theorem qvF {p q x y : Int} (hp : 0 ≤ p ∧ p ≤ 400000000) (hq : 0 ≤ q ∧ q ≤ 400000000) (hx : -400000000 ≤ x ∧ x ≤ 400000000) (hy : -400000000 ≤ y ∧ y ≤ 400000000) :
    IntKind.i64.wrap (IntKind.i64.wrap (p * x) + IntKind.i64.wrap (q * y)) = p * x + q * y ∧ inI (p * x + q * y) := by
  have h1 : (p * x).natAbs ≤ 400000000 * 400000000 := by rw [Int.natAbs_mul]; exact Nat.mul_le_mul (by omega) (by omega)
  have h2 : (q * y).natAbs ≤ 400000000 * 400000000 := by rw [Int.natAbs_mul]; exact Nat.mul_le_mul (by omega) (by omega)
  generalize p * x = u at *
  generalize q * y = v at *
  rw [qaH (n := u) (by omega) (by omega), qaH (n := v) (by omega) (by omega), qaH (by omega) (by omega)]
  exact ⟨rfl, by unfold inI; omega⟩
theorem qWO {p q : Int} (hp : 0 ≤ p ∧ p ≤ 400000000) (hq : 0 ≤ q ∧ q ≤ 400000000) {xs ys : List Int} (hx : ∀ x ∈ xs, -400000000 ≤ x ∧ x ≤ 400000000) (hy : ∀ x ∈ ys, -400000000 ≤ x ∧ x ≤ 400000000) : ∀ z ∈ qdg p q xs ys, inI z := by
  intro z hz
  obtain ⟨⟨x, y⟩, hm, rfl⟩ := List.mem_map.1 hz
  obtain ⟨h1, h2⟩ := List.of_mem_zip hm
  exact (qvF hp hq (hx x h1) (hy y h2)).2
theorem qJ8 {p q : Int} {xs ys : List Int} (h : xs.length = ys.length) : (qdg p q xs ys).length = xs.length := by simp [qdg, h]
theorem q09 (N : Nat) (p q : Int) (hp : 0 ≤ p ∧ p ≤ 400000000) (hq : 0 ≤ q ∧ q ≤ 400000000) (xs ys : List (Val (.int .i64))) (c : Int) (s : Bool) (c' : Int) (s' : Bool) (d : Int) (e : Bool) (K : List (Val (.int .i64)) → Option (qb [qi, i4])) (hl : xs.length ≤ 1048576) (hxy : xs.length = ys.length)
    (hx : ∀ x ∈ (xs : List Int), -400000000 ≤ x ∧ x ≤ 400000000) (hy : ∀ x ∈ (ys : List Int), -400000000 ≤ x ∧ x ≤ 400000000) (n : Nat) (hn : xs.length < n) :
    qgH N p q xs.length xs c s ys c' s' d e K n 0 (List.replicate xs.length (qc (.int .i64))) = K (qdg p q xs ys) := by
  have hm := qJ8 (p := p) (q := q) hxy
  have := qlR (xs := (qdg p q xs ys : List (Val (.int .i64)))) (F := fun n i v => qgH N p q xs.length xs c s ys c' s' d e K n i v) (k := K) (qc (.int .i64)) (by rw [hm]; exact hl) (fun n i v hi hv => ?_) (fun n i v hi => ?_) n (by rw [hm]; exact hn)
  · rw [hm] at this; exact this
  · have hi : i < xs.length := by rw [hm] at hi; exact hi
    have hv : v.length = xs.length := by rw [hm] at hv; exact hv
    have hi2 : i < ys.length := by omega
    rw [qgH, qn (by omega), qe (by omega), qe (by omega), qe (by omega), qe (by simp; omega), qG hi, qG hi2, (qvF hp hq (hx _ (List.getElem_mem hi)) (hy _ (List.getElem_mem hi2))).1]
    have e : (qdg p q xs ys)[i] = p * xs[i] + q * ys[i] := by simp [qdg]
    simp only [e, Int.toNat_natCast]
  · have hi : xs.length ≤ i := by rw [hm] at hi; exact hi
    rw [qgH, ql (by omega)]
theorem q65 (N : Nat) (p q : Int) (hp : 0 ≤ p ∧ p ≤ 400000000) (hq : 0 ≤ q ∧ q ≤ 400000000) (xs ys : List (Val (.int .i64))) (c : Int) (s : Bool) (c' : Int) (s' : Bool) (d : Int) (e : Bool) (K : List (Val (.int .i64)) → Option (qb [qi, i4])) (hl : xs.length ≤ 1048576) (hxy : xs.length = ys.length)
    (hx : ∀ x ∈ (xs : List Int), -400000000 ≤ x ∧ x ≤ 400000000) (hy : ∀ x ∈ (ys : List Int), -400000000 ≤ x ∧ x ≤ 400000000) (n : Nat) (hn : xs.length < n) :
    qfH N p q xs c s ys c' s' d e K n 0 [] = K (qdg p q xs ys) := by
  have hz : (List.zip (α := Int) (β := Int) xs ys).length = xs.length := by simp [hxy]
  refine (qax (xs := List.zip (α := Int) (β := Int) xs ys) (F := fun n i v => qfH N p q xs c s ys c' s' d e K n i v) (step := fun _ z (v : List (Val (.int .i64))) K => chk (v.length + [p * z.1 + q * z.2].length ≤ 1048576) (K (v ++ [p * z.1 + q * z.2]))) (k := K) (by omega) (fun n i v hi => ?_) (fun n i v hi => ?_) n _ (by omega)).trans ((qvE (f := fun (z : Int × Int) => p * z.1 + q * z.2) (k := K) (List.zip (α := Int) (β := Int) xs ys) 0 [] (by simp; omega)).trans ?_)
  · have hi1 : i < xs.length := by omega
    have hi2 : i < ys.length := by omega
    rw [qfH, qn (by omega), qe (by omega), qe (by omega), qG hi1, qG hi2, (qvF hp hq (hx _ (List.getElem_mem hi1)) (hy _ (List.getElem_mem hi2))).1]
    simp only [List.getElem_zip]
  · rw [qfH, ql (by omega)]
  · rw [List.nil_append]; rfl
theorem qn0 {x a b : Int} (h : a ≤ x ∧ x ≤ b) : inR x a b = true := decide_eq_true h
theorem qu1 {x a b : Int} (h : ¬ (a ≤ x ∧ x ≤ b)) : inR x a b = false := decide_eq_false h
theorem qjq {a : Val qa} (h : qD a = true) : ∀ x ∈ (a.1 : List Int), @LE.le Int _ (-400000000) x ∧ @LE.le Int _ x 400000000 := (qa5 h).2.2
theorem qUR {p q : Int} (hp : 0 ≤ p ∧ p ≤ 400000000) (hq : 0 ≤ q ∧ q ≤ 400000000) {a b : Val qa} (ha : qD a = true) (hb : qD b = true) (hl : List.length (α := Int) a.1 = List.length (α := Int) b.1) (s : Bool) :
    IntKind.i64.wrap (IntKind.i64.wrap (p * (a.2.1 : Int)) + IntKind.i64.wrap (q * (b.2.1 : Int))) = p * a.2.1 + q * b.2.1 ∧ qaC (qdg p q a.1 b.1) (p * a.2.1 + q * b.2.1) s := by
  obtain ⟨h1, h2⟩ := qvF hp hq (qjT ha) (qjT hb)
  have h4 := (qa5 ha).1
  have hm := qJ8 (p := p) (q := q) hl
  exact ⟨h1, ⟨by have : (qdg p q a.1 b.1).length ≤ 1048576 := by omega
                 exact this, h2, qWO hp hq (qjq ha) (qjq hb)⟩⟩
theorem q8g (a : Val qa) (p : Int) (b : Val qa) (q : Int) : ∃ N, qyu N a p b q = some ((q5 a p b q).1, (q5 a p b q).2, ()) := ⟨List.length (α := Int) a.1 + 1, by
  rw [qyu]
  unfold q5
  cases ha : qD a with
  | false => rfl
  | true =>
  cases hb : qD b with
  | false => rfl
  | true =>
  by_cases hl : List.length (α := Int) a.1 = List.length (α := Int) b.1
  · have hlI : ((List.length (α := Val (.int .i64)) a.1 : Int) = (List.length (α := Val (.int .i64)) b.1 : Int)) := congrArg Int.ofNat hl
    by_cases hp : 0 ≤ p ∧ p ≤ 400000000
    · by_cases hq : 0 ≤ q ∧ q ≤ 400000000
      · rw [qn0 hp, qn0 hq, decide_eq_true hl, decide_eq_true hlI, ql (show ¬ p < 0 by omega), ql (show ¬ 400000000 < p by omega), ql (show ¬ q < 0 by omega), ql (show ¬ 400000000 < q by omega)]
        simp only [Bool.not_true, cond_false, cond_true, Bool.and_self]
        have h4 := (qa5 ha).1
        rw [qe (qg0 (by omega)), Int.toNat_natCast, List.length_replicate, q09 _ p q hp hq a.1 b.1 _ _ _ _ _ _ _ (by omega) hl (qjq ha) (qjq hb) _ (Nat.lt_succ_self _)]
        have hw := fun s => qUR hp hq ha hb hl s
        rw [(hw true).1, qe (hw true).2, qe (hw false).2, qe (hw _).2]
        have ep : (!decide (p = 0)) = decide (0 < p) := by by_cases h : p = 0 <;> simp [h] <;> omega
        have eq' : (!decide (q = 0)) = decide (0 < q) := by by_cases h : q = 0 <;> simp [h] <;> omega
        rw [ep, eq']
        cases a.2.2 <;> cases b.2.2 <;> cases decide (0 < p) <;> cases decide (0 < q) <;> rfl
      · rw [qu1 hq, decide_eq_true hlI, ql (show ¬ p < 0 by omega), ql (show ¬ 400000000 < p by omega)]
        simp only [Bool.not_true, cond_false, Bool.and_false]
        by_cases hq0 : q < 0
        · rw [qn hq0]
        · rw [ql hq0, qn (show 400000000 < q by omega)]
    · rw [qu1 hp, decide_eq_true hlI]
      simp only [Bool.not_true, cond_false, Bool.and_false, Bool.false_and]
      by_cases hp0 : p < 0
      · rw [qn hp0]
      · rw [ql hp0, qn (show 400000000 < p by omega)]
  · have hlI : ¬ ((List.length (α := Val (.int .i64)) a.1 : Int) = (List.length (α := Val (.int .i64)) b.1 : Int)) := fun h => hl (Int.ofNat.inj h)
    rw [decide_eq_false hl, decide_eq_false hlI]
    rfl⟩
theorem qW3 : Sound Tryz.prog 293 qeO := qt (tt := tt) (Γ := qgV) hT (qg qWW (qg qnP qo)) hm (fn := Tryz.f293) Tryz.func293 (c := Tryz.f293.body.getD .skip) (by kernel_rfl) (by kernel_rfl) fun x hx => by
  obtain ⟨N, h⟩ := q8g x.1 x.2.1 x.2.2.1 x.2.2.2.1
  exact ⟨qc4 N, q5D, qw _, q1B N, (zeV N x.1 x.2.1 x.2.2.1 x.2.2.2.1).trans h⟩
theorem qXD (a : Val qa) (p : Int) (b : Val qa) (q : Int) (h : qz7 a p b q) : ∃ N, qxs N a p b q = some ((q5 a p b q).1, (q5 a p b q).2, ()) := ⟨List.length (α := Int) a.1 + 1, by
  rw [qxs]
  unfold q5
  cases ha : qD a with
  | false => rfl
  | true =>
  cases hb : qD b with
  | false => rfl
  | true =>
  by_cases hl : List.length (α := Int) a.1 = List.length (α := Int) b.1
  · have hlI : ((List.length (α := Val (.int .i64)) a.1 : Int) = (List.length (α := Val (.int .i64)) b.1 : Int)) := congrArg Int.ofNat hl
    by_cases hp : 0 ≤ p ∧ p ≤ 400000000
    · by_cases hq : 0 ≤ q ∧ q ≤ 400000000
      · rw [qn0 hp, qn0 hq, decide_eq_true hl, decide_eq_true hlI]
        simp only [Bool.not_true, cond_false, cond_true, Bool.and_self]
        have h4 := (qa5 ha).1
        rw [q65 _ p q hp hq a.1 b.1 _ _ _ _ _ _ _ (by omega) hl (qjq ha) (qjq hb) _ (Nat.lt_succ_self _)]
        have hw := fun s => qUR hp hq ha hb hl s
        rw [(hw true).1, qe (hw true).2, qe (hw false).2, qe (hw _).2]
        cases a.2.2 <;> cases b.2.2 <;> cases decide (0 < p) <;> cases decide (0 < q) <;> rfl
      · rw [qu1 hq, qn0 hp, decide_eq_true hlI]
        simp only [Bool.not_true, Bool.not_false, cond_false, cond_true, Bool.and_false]
    · rw [qu1 hp, decide_eq_true hlI]
      simp only [Bool.not_true, Bool.not_false, cond_false, cond_true, Bool.and_false, Bool.false_and]
  · have hlI : ¬ ((List.length (α := Val (.int .i64)) a.1 : Int) = (List.length (α := Val (.int .i64)) b.1 : Int)) := fun h => hl (Int.ofNat.inj h)
    rw [decide_eq_false hl, decide_eq_false hlI]
    rfl⟩
theorem q4t : Sound Tryz.prog 235 qeH := qt (tt := tt) (Γ := qfM) hT (qg qwV (qg q59 (qg qyJ qo))) hm (fn := Tryz.f235) Tryz.func235 (c := Tryz.f235.body.getD .skip) (by kernel_rfl) (by kernel_rfl) fun x hx => by
  obtain ⟨N, h⟩ := qXD x.1 x.2.1 x.2.2.1 x.2.2.2.1 hx
  exact ⟨qcv N, q79, qw _, q9n N, (q7T N x.1 x.2.1 x.2.2.1 x.2.2.2.1).trans h⟩
end Go.T
