/- Emptiness; what cells imply: run. -/
import Derived.Test.YthefcjjgchekiaaGreatE0
set_option linter.unusedSimpArgs false
set_option linter.unusedVariables false
namespace Go.T
open Go Go.Proofs
set_option maxHeartbeats 4000000
set_option maxRecDepth 100000
def qaw (c : Val Y33) : Bool × Bool := bif qz c then (match qfJ (-1) (c.1 : Int).toNat (qr c.1 c.2) with
  | some y => (decide ((0 : Int) < (List.length (α := Val qa) y.2 : Int)), true)
  | none => (false, false)) else (false, false)
def qn6 (c : Val Y33) : Prop := qbW c
def qdc : Nat → Val Y33 → Option (List (Val Y33))
  | 0, x => some [x]
  | k + 1, x => bif (qad x k).2 then (match qdc k (qad x k).1 with
    | some l => some (l ++ [x])
    | none => none) else none
def qel (c : Val Y33) : List (Val Y33) × Bool := bif qz c then (match qdc (c.1 : Int).toNat (qr c.1 c.2) with
  | some l => (l, true)
  | none => ([], false)) else ([], false)
def qgI (n : Val qa) (d : Int) : Val Y33 := (d, [n])
def qar (c : Val Y33) (a : Val qa) : Bool × Bool := bif (qh a).2 && (qO c (qgI (qh a).1 (List.length (α := Int) a.1 : Int))).2 then qaw (qO c (qgI (qh a).1 (List.length (α := Int) a.1 : Int))).1 else (false, false)
def qof (c : Val Y33) (a : Val qa) : Prop := qbW c ∧ qba a
def qt7 : G := { ps := [i33], rs := [i48, i4], dp := true, pre := fun _ => True, fn := fun x => ((qel x.1).1, (qel x.1).2, ()) }
def qdo : G := { ps := [i33], rs := [i4, i4], dp := true, pre := fun _ => True, fn := fun x => ((qaw x.1).1, (qaw x.1).2, ()) }
def qdk : G := { ps := [i33], rs := [i4, i4], dp := true, pre := fun x => qn6 x.1, fn := fun x => ((qaw x.1).1, (qaw x.1).2, ()) }
noncomputable def qh2 (N : Nat)  (k0 : (List (Val Y33)) → Option (qb [i48, i4])) : Nat → Int → (List (Val Y33)) → Option (qb [i48, i4])
  | 0, _, _ => none
  | n + 1, v1, v2 => bif (decide ((0 : Int) ≤ v1)) then (chk (0 ≤ (IntKind.i64.wrap (v1 + (1 : Int))) ∧ (IntKind.i64.wrap (v1 + (1 : Int))) < (v2.length : Int)) (chk ((IntKind.i64.wrap (v1 + (1 : Int))).toNat < v2.length) (bif (!((qev (v2.getD ((IntKind.i64.wrap (v1 + (1 : Int))).toNat) (qc Y33)) v1).2 : Bool)) then (some (([] : List (Val Y33)), false, ())) else (chk (0 ≤ v1 ∧ v1 < (v2.length : Int)) (chk (v1.toNat < v2.length) (qh2 N  k0 n (IntKind.i64.wrap (v1 - (1 : Int))) (v2.set v1.toNat ((((qev (v2.getD ((IntKind.i64.wrap (v1 + (1 : Int))).toNat) (qc Y33)) v1).1).1 : Int), (((qev (v2.getD ((IntKind.i64.wrap (v1 + (1 : Int))).toNat) (qc Y33)) v1).1).2 : List (Val qa)))))))))) else (k0 v2)
noncomputable def qvb (N : Nat) (v0 : Val Y33) : Option (qb [i48, i4]) := bif (!((qz v0) : Bool)) then (some (([] : List (Val Y33)), false, ())) else (chk (0 ≤ (IntKind.i64.wrap ((v0.1 : Int) + (1 : Int))) ∧ (IntKind.i64.wrap ((v0.1 : Int) + (1 : Int))) ≤ (IntKind.i64.wrap ((v0.1 : Int) + (1 : Int))) ∧ (IntKind.i64.wrap ((v0.1 : Int) + (1 : Int))) ≤ 1048576) (chk (qaX (v0.1 : Int) (v0.2 : List (Val qa))) (chk (0 ≤ (v0.1 : Int) ∧ (v0.1 : Int) < ((List.replicate (IntKind.i64.wrap ((v0.1 : Int) + (1 : Int))).toNat (qc Y33)).length : Int)) (chk ((v0.1 : Int).toNat < (List.replicate (IntKind.i64.wrap ((v0.1 : Int) + (1 : Int))).toNat (qc Y33)).length) (qh2 N  (fun (v4 : List (Val Y33)) => some (v4, true, ())) N (IntKind.i64.wrap ((v0.1 : Int) - (1 : Int))) ((List.replicate (IntKind.i64.wrap ((v0.1 : Int) + (1 : Int))).toNat (qc Y33)).set ((v0.1 : Int).toNat) (((qr (v0.1 : Int) (v0.2 : List (Val qa))).1 : Int), ((qr (v0.1 : Int) (v0.2 : List (Val qa))).2 : List (Val qa)))))))))
def qfU : Gam := [(199, qay), (230, qdd), (237, qkK)]
theorem qEy : Gam.get qfU 199 = some qay := rfl
theorem qNA : Gam.get qfU 230 = some qdd := rfl
theorem qA2 : Gam.get qfU 237 = some qkK := rfl
def qsC : Nm := ⟨[false, false, false, false, true, true], [], false⟩
theorem qBV : qsC.zero = false := rfl
theorem qI9 : qsC.fix = [] := rfl
theorem qPh : qsC.keep = [false, false, false, false, true, true] := rfl
def qxV : Nm := ⟨[false, false, false, false, true], [], false⟩
theorem qHc : qxV.zero = false := rfl
theorem qMJ : qxV.fix = [] := rfl
theorem qKv : qxV.keep = [false, false, false, false, true] := rfl
def qzu : Nm := ⟨[false, true, false, false, true], [], false⟩
theorem qG3 : qzu.zero = false := rfl
theorem qKM : qzu.fix = [] := rfl
theorem qIY : qzu.keep = [false, true, false, false, true] := rfl
def qkM : Nat → Tree := fun i => if i = 4 then .quiet 3 (.quiet 4 (.quiet 5 (.quiet 6 (.first 0 (.alt 1 (.alt 2 (.alt 7 (.quiet 8 (.alt 9 .done .stop)) .stop) (.alt 7 (.quiet 2 (.quiet 8 (.alt 9 .done .stop))) .stop)) (.alt 7 (.quiet 1 (.quiet 2 (.quiet 8 (.alt 9 .done .stop)))) .stop)))))) else .done
def ql3 : Nat → Nm := fun i => if i = 6 then qsC else ⟨[], [], false⟩
def qnw : Nat → Option Jn := fun _ => none
def qnU : Nat → Option Nm := fun i => if i = 0 then some qxV else none
def qoq : Nat → Option Nm := fun i => if i = 4 then some qzu else none
theorem q2U : qj qkM (Tryz.f225.body.getD .skip) = true := by kernel_rfl
def qcE (N : Nat) : Tab := { tr := qkM, lp := ql3, ex := qnU, rg := qoq, jn := qnw, fuel := N }
theorem qJW (N : Nat) : (qcE N).pins = false := rfl
theorem qWf (N : Nat) : qk Tryz.prog (qcE N) := qp fun _ => rfl
theorem qFr (N : Nat) (i : Nat) : (qcE N).tr i = qkM i := rfl
theorem qDr (N : Nat) (i : Nat) : (qcE N).lp i = ql3 i := rfl
theorem qHD (N : Nat) (i : Nat) : (qcE N).ex i = qnU i := rfl
theorem qJb (N : Nat) (i : Nat) : (qcE N).rg i = qoq i := rfl
theorem qNt (N : Nat) (i : Nat) : (qcE N).jn i = qnw i := rfl
theorem qLt (N : Nat) : (qcE N).fuel = N := rfl
noncomputable def qUP : Code := cut [true, true, true, true, false, true, true, true] (Tryz.f225.body.getD .skip)
theorem q5F {N : Nat} {Q : X → St → Option (qb [i48, i4])} {e : List LV} {h : List Blk} : qf tt qfU (qcE N) qUP Q ⟨e, h⟩ = qf tt qfU (qcE N) (cut [true, true, true, true, false, true, true, true] (Tryz.f225.body.getD .skip)) Q ⟨e, h⟩ := rfl
theorem zau (N : Nat)  {k0 : (List (Val Y33)) → Option (qb [i48, i4])} {Q : X → St → Option (qb [i48, i4])} {c : Code} (hc : c = qUP) (hret : ∀ st, Q .ret st = qE tt true [i48, i4] [.tmp 2, .tmp 3] st) (h0 : ∀ (v3 : List (Val Y33)), Q (.exit 0) ⟨[u, u, u, u, .one (.own 0), u, u, u, u, u, u, u, u, u, u, u, u, u, u, u, u, u, u, u, u, u, u, u, u, u, u, u, u, u, u, u, u, u, u, u, u, u, u, u, u, u, u, u], [.row 33 Y33 v3 true true 0]⟩ = k0 v3) : ∀ (n : Nat) (v1 : Int) (v2 : List (Val Y33)), qF (qf tt qfU (qcE N) c) false qsC Q n ⟨[u, u, u, u, .one (.own 0), .one (.int .i64 v1), u, u, u, u, u, u, u, u, u, u, u, u, u, u, u, u, u, u, u, u, u, u, u, u, u, u, u, u, u, u, u, u, u, u, u, u, u, u, u, u, u, u], [.row 33 Y33 v2 true true 0]⟩ = qh2 N  k0 n v1 v2 := by
  subst hc; intro n; induction n with
  | zero => intros; rfl
  | succ n ih =>
    intro v1 v2
    rw [qM, q5F, qh2]; unfold Tryz.f225
    simp (maxSteps := 10000000) -implicitDefEqProofs [qFr, qkM, qDr, ql3, qHD, qnU, qJb, qoq, qNt, qnw, qLt, qJW, qI9, qPh, qBV, qMJ, qKv, qHc, qKM, qIY, qG3, qEy, qNA, qA2, qay, qdd, qkK, hret, h0, ih]
theorem q5h (N : Nat) (v0 : Val Y33) : qf tt qfU (qcE N) (Tryz.f225.body.getD .skip) (qm tt true [i48, i4] [.tmp 2, .tmp 3]) (qq [i33] 48 (v0, ())) = qvb N v0 := by
  unfold Tryz.f225
  simp (maxSteps := 10000000) -implicitDefEqProofs [qFr, qkM, qDr, ql3, qHD, qnU, qJb, qoq, qNt, qnw, qLt, qJW, qI9, qPh, qBV, qMJ, qKv, qHc, qKM, qIY, qG3, qEy, qNA, qA2, qay, qdd, qkK]
  rewrite [zau (k0 := (fun (v4 : List (Val Y33)) => some (v4, true, ()))) N  ?_ ?_ ?_]
  · rewrite [qvb]; first | rfl | simp (maxSteps := 10000000) -implicitDefEqProofs []
  · rfl
  · intro; simp only [qK, qJ, qL, qC]
  · intro v4; simp (maxSteps := 10000000) -implicitDefEqProofs [qFr, qkM, qDr, ql3, qHD, qnU, qJb, qoq, qNt, qnw, qLt, qJW, qI9, qPh, qBV, qMJ, qKv, qHc, qKM, qIY, qG3, qEy, qNA, qA2, qay, qdd, qkK]
noncomputable def qwD (N : Nat) (v0 : Val Y33) : Option (qb [i4, i4]) := bif (!((qel v0).2 : Bool)) then (some (false, false, ())) else (chk (0 ≤ (0 : Int) ∧ (0 : Int) < (((qel v0).1 : List (Val Y33)).length : Int)) (chk ((0 : Int).toNat < ((qel v0).1 : List (Val Y33)).length) (some ((decide ((0 : Int) < (((((qel v0).1 : List (Val Y33)).getD ((0 : Int).toNat) (qc Y33)).2 : List (Val qa)).length : Int))), true, ()))))
def qC7 : Gam := [(225, qt7)]
theorem qXq : Gam.get qC7 225 = some qt7 := rfl
def quH : Nat → Tree := fun _ => .done
def qA9 : Nat → Nm := fun _ => ⟨[], [], false⟩
def qCt : Nat → Option Jn := fun _ => none
def qB1 : Nat → Option Nm := fun _ => none
def qO0 : Nat → Option Nm := fun _ => none
theorem qVs : qj quH (Tryz.f212.body.getD .skip) = true := by kernel_rfl
def qeD (N : Nat) : Tab := { tr := quH, lp := qA9, ex := qB1, rg := qO0, jn := qCt, fuel := N }
theorem q2i (N : Nat) : (qeD N).pins = false := rfl
theorem q6k (N : Nat) : qk Tryz.prog (qeD N) := qp fun _ => rfl
theorem qWE (N : Nat) (i : Nat) : (qeD N).tr i = quH i := rfl
theorem qW5 (N : Nat) (i : Nat) : (qeD N).lp i = qA9 i := rfl
theorem zec (N : Nat) (i : Nat) : (qeD N).ex i = qB1 i := rfl
theorem q6L (N : Nat) (i : Nat) : (qeD N).rg i = qO0 i := rfl
theorem q6y (N : Nat) (i : Nat) : (qeD N).jn i = qCt i := rfl
theorem zeF (N : Nat) : (qeD N).fuel = N := rfl
theorem q91 (N : Nat) (v0 : Val Y33) : qf tt qC7 (qeD N) (Tryz.f212.body.getD .skip) (qm tt true [i4, i4] [.tmp 2, .tmp 3]) (qq [i33] 19 (v0, ())) = qwD N v0 := by
  rw [qwD]; unfold Tryz.f212
  simp (maxSteps := 10000000) -implicitDefEqProofs [qWE, quH, qW5, qA9, zec, qB1, q6L, qO0, q6y, qCt, zeF, q2i, qXq, qt7]
  try rfl
noncomputable def qg8 (N : Nat)  (k0 : Int → (List (Val qa)) → Option (qb [i4, i4])) : Nat → Int → Int → (List (Val qa)) → Option (qb [i4, i4])
  | 0, _, _, _ => none
  | n + 1, v1, v2, v3 => bif (decide ((0 : Int) ≤ v1)) then (chk (qyL (v2, v3) v1) (bif (!((qad (v2, v3) v1).2 : Bool)) then (some (false, false, ())) else (qg8 N  k0 n (IntKind.i64.wrap (v1 - (1 : Int))) (((qad (v2, v3) v1).1).1 : Int) (((qad (v2, v3) v1).1).2 : List (Val qa))))) else (k0 v2 v3)
noncomputable def qvd (N : Nat) (v0 : Val Y33) : Option (qb [i4, i4]) := chk (qbW v0) (bif (!((qz v0) : Bool)) then (some (false, false, ())) else (chk (qaX (v0.1 : Int) (v0.2 : List (Val qa))) (qg8 N  (fun (v6 : Int) (v7 : List (Val qa)) => some ((decide ((0 : Int) < (v7.length : Int))), true, ())) N (IntKind.i64.wrap ((v0.1 : Int) - (1 : Int))) ((qr (v0.1 : Int) (v0.2 : List (Val qa))).1 : Int) ((qr (v0.1 : Int) (v0.2 : List (Val qa))).2 : List (Val qa)))))
def qfZ : Gam := [(104, qcj), (150, qaq), (151, qk5)]
theorem qLg : Gam.get qfZ 104 = some qcj := rfl
theorem qI0 : Gam.get qfZ 150 = some qaq := rfl
theorem qKt : Gam.get qfZ 151 = some qk5 := rfl
def qs3 : Nm := ⟨[false, false, false, false, true, true], [], false⟩
theorem qNs : qs3.zero = false := rfl
theorem qIS : qs3.fix = [] := rfl
theorem qIq : qs3.keep = [false, false, false, false, true, true] := rfl
def qz9 : Nm := ⟨[false, false, false, false, true], [], false⟩
theorem qAE : qz9.zero = false := rfl
theorem qFq : qz9.fix = [] := rfl
theorem qOJ : qz9.keep = [false, false, false, false, true] := rfl
def qjU : Nat → Tree := fun _ => .done
def qrf : Nat → Nm := fun i => if i = 5 then qs3 else ⟨[], [], false⟩
def qnJ : Nat → Option Jn := fun _ => none
def qpW : Nat → Option Nm := fun i => if i = 0 then some qz9 else none
def qmz : Nat → Option Nm := fun _ => none
theorem q07 : qj qjU (Tryz.f208.body.getD .skip) = true := by kernel_rfl
def qcy (N : Nat) : Tab := { tr := qjU, lp := qrf, ex := qpW, rg := qmz, jn := qnJ, fuel := N }
theorem qP1 (N : Nat) : (qcy N).pins = false := rfl
theorem q1O (N : Nat) : qk Tryz.prog (qcy N) := qp fun _ => rfl
theorem qOk (N : Nat) (i : Nat) : (qcy N).tr i = qjU i := rfl
theorem qES (N : Nat) (i : Nat) : (qcy N).lp i = qrf i := rfl
theorem qBA (N : Nat) (i : Nat) : (qcy N).ex i = qpW i := rfl
theorem qCr (N : Nat) (i : Nat) : (qcy N).rg i = qmz i := rfl
theorem qGi (N : Nat) (i : Nat) : (qcy N).jn i = qnJ i := rfl
theorem qF6 (N : Nat) : (qcy N).fuel = N := rfl
noncomputable def qRB : Code := cut [true, true, true, false, true, true, true] (Tryz.f208.body.getD .skip)
theorem zbC {N : Nat} {Q : X → St → Option (qb [i4, i4])} {e : List LV} {h : List Blk} : qf tt qfZ (qcy N) qRB Q ⟨e, h⟩ = qf tt qfZ (qcy N) (cut [true, true, true, false, true, true, true] (Tryz.f208.body.getD .skip)) Q ⟨e, h⟩ := rfl
theorem qXB (N : Nat)  {k0 : Int → (List (Val qa)) → Option (qb [i4, i4])} {Q : X → St → Option (qb [i4, i4])} {c : Code} (hc : c = qRB) (hret : ∀ st, Q .ret st = qE tt true [i4, i4] [.tmp 2, .tmp 3] st) (h0 : ∀ (v4 : Int) (v5 : List (Val qa)), Q (.exit 0) ⟨[u, u, u, u, .one (.ptr 0 0 0), u, u, u, u, u, u, u, u, u, u, u, u, u, u, u, u, u, u, u, u, u, u, u, u, u, u, u, u, u, u, u], [.box [.int .i64 v4, .sl 108 qa v5 1]]⟩ = k0 v4 v5) : ∀ (n : Nat) (v1 : Int) (v2 : Int) (v3 : List (Val qa)), qF (qf tt qfZ (qcy N) c) false qs3 Q n ⟨[u, u, u, u, .one (.ptr 0 0 0), .one (.int .i64 v1), u, u, u, u, u, u, u, u, u, u, u, u, u, u, u, u, u, u, u, u, u, u, u, u, u, u, u, u, u, u], [.box [.int .i64 v2, .sl 108 qa v3 1]]⟩ = qg8 N  k0 n v1 v2 v3 := by
  subst hc; intro n; induction n with
  | zero => intros; rfl
  | succ n ih =>
    intro v1 v2 v3
    rw [qM, zbC, qg8]; unfold Tryz.f208
    simp (maxSteps := 10000000) -implicitDefEqProofs [qOk, qjU, qES, qrf, qBA, qpW, qCr, qmz, qGi, qnJ, qF6, qP1, qIS, qIq, qNs, qFq, qOJ, qAE, qLg, qI0, qKt, qcj, qaq, qk5, hret, h0, ih]
theorem q1n (N : Nat) (v0 : Val Y33) : qf tt qfZ (qcy N) (Tryz.f208.body.getD .skip) (qm tt true [i4, i4] [.tmp 2, .tmp 3]) (qq [i33] 36 (v0, ())) = qvd N v0 := by
  unfold Tryz.f208
  simp (maxSteps := 10000000) -implicitDefEqProofs [qOk, qjU, qES, qrf, qBA, qpW, qCr, qmz, qGi, qnJ, qF6, qP1, qIS, qIq, qNs, qFq, qOJ, qAE, qLg, qI0, qKt, qcj, qaq, qk5]
  rewrite [qXB (k0 := (fun (v6 : Int) (v7 : List (Val qa)) => some ((decide ((0 : Int) < (v7.length : Int))), true, ()))) N  ?_ ?_ ?_]
  · rewrite [qvd]; first | rfl | simp (maxSteps := 10000000) -implicitDefEqProofs []
  · rfl
  · intro; simp only [qK, qJ, qL, qC]
  · intro v6 v7; simp (maxSteps := 10000000) -implicitDefEqProofs [qOk, qjU, qES, qrf, qBA, qpW, qCr, qmz, qGi, qnJ, qF6, qP1, qIS, qIq, qNs, qFq, qOJ, qAE, qLg, qI0, qKt, qcj, qaq, qk5]
def qgN : G := { ps := [i33, qi], rs := [i4, i4], dp := true, pre := fun _ => True, fn := fun x => ((qar x.1 x.2.1).1, (qar x.1 x.2.1).2, ()) }
def qfX : G := { ps := [i33, qi], rs := [i4, i4], dp := true, pre := fun x => qof x.1 x.2.1, fn := fun x => ((qar x.1 x.2.1).1, (qar x.1 x.2.1).2, ()) }
noncomputable def quk (N : Nat) (v0 : Val Y33) (v1 : Val qa) : Option (qb [i4, i4]) := bif (!((qh v1).2 : Bool)) then (some (false, false, ())) else (bif (!((qO v0 (((((qh v1).1).1 : List (Val (.int .i64))).length : Int), ([((((qh v1).1).1 : List (Val (.int .i64))), ((((qh v1).1).2).1 : Int), ((((qh v1).1).2).2 : Bool))] : List (Val qa)))).2 : Bool)) then (some (false, false, ())) else (some (((qaw ((((qO v0 (((((qh v1).1).1 : List (Val (.int .i64))).length : Int), ([((((qh v1).1).1 : List (Val (.int .i64))), ((((qh v1).1).2).1 : Int), ((((qh v1).1).2).2 : Bool))] : List (Val qa)))).1).1 : Int), (((qO v0 (((((qh v1).1).1 : List (Val (.int .i64))).length : Int), ([((((qh v1).1).1 : List (Val (.int .i64))), ((((qh v1).1).2).1 : Int), ((((qh v1).1).2).2 : Bool))] : List (Val qa)))).1).2 : List (Val qa)))).1 : Bool), ((qaw ((((qO v0 (((((qh v1).1).1 : List (Val (.int .i64))).length : Int), ([((((qh v1).1).1 : List (Val (.int .i64))), ((((qh v1).1).2).1 : Int), ((((qh v1).1).2).2 : Bool))] : List (Val qa)))).1).1 : Int), (((qO v0 (((((qh v1).1).1 : List (Val (.int .i64))).length : Int), ([((((qh v1).1).1 : List (Val (.int .i64))), ((((qh v1).1).2).1 : Int), ((((qh v1).1).2).2 : Bool))] : List (Val qa)))).1).2 : List (Val qa)))).2 : Bool), ())))
def qmi : Gam := [(182, qdl), (212, qdo), (221, qdL)]
theorem qZz : Gam.get qmi 182 = some qdl := rfl
theorem zcn : Gam.get qmi 212 = some qdo := rfl
theorem zcP : Gam.get qmi 221 = some qdL := rfl
def qyZ : Nat → Tree := fun _ => .done
def qBg : Nat → Nm := fun _ => ⟨[], [], false⟩
def qDU : Nat → Option Jn := fun _ => none
def qCV : Nat → Option Nm := fun _ => none
def qFs : Nat → Option Nm := fun _ => none
theorem qYg : qj qyZ (Tryz.f220.body.getD .skip) = true := by kernel_rfl
def qdO (N : Nat) : Tab := { tr := qyZ, lp := qBg, ex := qCV, rg := qFs, jn := qDU, fuel := N }
theorem zfg (N : Nat) : (qdO N).pins = false := rfl
theorem zco (N : Nat) : qk Tryz.prog (qdO N) := qp fun _ => rfl
theorem q5a (N : Nat) (i : Nat) : (qdO N).tr i = qyZ i := rfl
theorem q9P (N : Nat) (i : Nat) : (qdO N).lp i = qBg i := rfl
theorem q4I (N : Nat) (i : Nat) : (qdO N).ex i = qCV i := rfl
theorem q1j (N : Nat) (i : Nat) : (qdO N).rg i = qFs i := rfl
theorem q4f (N : Nat) (i : Nat) : (qdO N).jn i = qDU i := rfl
theorem q1Z (N : Nat) : (qdO N).fuel = N := rfl
theorem q2d (N : Nat) (v0 : Val Y33) (v1 : Val qa) : qf tt qmi (qdO N) (Tryz.f220.body.getD .skip) (qm tt true [i4, i4] [.tmp 4, .tmp 5]) (qq [i33, qi] 33 (v0, v1, ())) = quk N v0 v1 := by
  rw [quk]; unfold Tryz.f220
  simp (maxSteps := 10000000) -implicitDefEqProofs [q5a, qyZ, q9P, qBg, q4I, qCV, q1j, qFs, q4f, qDU, q1Z, zfg, qZz, zcn, zcP, qdl, qdo, qdL]
  try rfl
noncomputable def qxo (N : Nat) (v0 : Val Y33) (v1 : Val qa) : Option (qb [i4, i4]) := chk (qky v1) (chk (qlu v0 (((v1.1 : List (Val (.int .i64))).length : Int), ([((((qh v1).1).1 : List (Val (.int .i64))), ((((qh v1).1).2).1 : Int), ((((qh v1).1).2).2 : Bool))] : List (Val qa)))) (bif (!((qh v1).2 : Bool)) then (some (false, false, ())) else (bif (!((qO v0 (((v1.1 : List (Val (.int .i64))).length : Int), ([((((qh v1).1).1 : List (Val (.int .i64))), ((((qh v1).1).2).1 : Int), ((((qh v1).1).2).2 : Bool))] : List (Val qa)))).2 : Bool)) then (some (false, false, ())) else (chk (qn6 ((qO v0 (((v1.1 : List (Val (.int .i64))).length : Int), ([((((qh v1).1).1 : List (Val (.int .i64))), ((((qh v1).1).2).1 : Int), ((((qh v1).1).2).2 : Bool))] : List (Val qa)))).1)) (some (((qaw ((qO v0 (((v1.1 : List (Val (.int .i64))).length : Int), ([((((qh v1).1).1 : List (Val (.int .i64))), ((((qh v1).1).2).1 : Int), ((((qh v1).1).2).2 : Bool))] : List (Val qa)))).1)).1 : Bool), ((qaw ((qO v0 (((v1.1 : List (Val (.int .i64))).length : Int), ([((((qh v1).1).1 : List (Val (.int .i64))), ((((qh v1).1).2).1 : Int), ((((qh v1).1).2).2 : Bool))] : List (Val qa)))).1)).2 : Bool), ()))))))
def qnm : Gam := [(178, qdE), (208, qdk), (218, qdC)]
theorem zbZ : Gam.get qnm 178 = some qdE := rfl
theorem q7D : Gam.get qnm 208 = some qdk := rfl
theorem qWS : Gam.get qnm 218 = some qdC := rfl
def quy : Nat → Tree := fun _ => .done
def qKW : Nat → Nm := fun _ => ⟨[], [], false⟩
def qPw : Nat → Option Jn := fun _ => none
def qAl : Nat → Option Nm := fun _ => none
def qK8 : Nat → Option Nm := fun _ => none
theorem qWJ : qj quy (Tryz.f283.body.getD .skip) = true := by kernel_rfl
def qen (N : Nat) : Tab := { tr := quy, lp := qKW, ex := qAl, rg := qK8, jn := qPw, fuel := N }
theorem q1H (N : Nat) : (qen N).pins = false := rfl
theorem q8n (N : Nat) : qk Tryz.prog (qen N) := qp fun _ => rfl
theorem zew (N : Nat) (i : Nat) : (qen N).tr i = quy i := rfl
theorem q5n (N : Nat) (i : Nat) : (qen N).lp i = qKW i := rfl
theorem q3P (N : Nat) (i : Nat) : (qen N).ex i = qAl i := rfl
theorem q9a (N : Nat) (i : Nat) : (qen N).rg i = qK8 i := rfl
theorem zce (N : Nat) (i : Nat) : (qen N).jn i = qPw i := rfl
theorem qVq (N : Nat) : (qen N).fuel = N := rfl
theorem zdG (N : Nat) (v0 : Val Y33) (v1 : Val qa) : qf tt qnm (qen N) (Tryz.f283.body.getD .skip) (qm tt true [i4, i4] [.tmp 4, .tmp 5]) (qq [i33, qi] 41 (v0, v1, ())) = qxo N v0 v1 := by
  rw [qxo]; unfold Tryz.f283
  simp (maxSteps := 10000000) -implicitDefEqProofs [zew, quy, q5n, qKW, q3P, qAl, q9a, qK8, zce, qPw, qVq, q1H, zbZ, q7D, qWS, qdE, qdk, qdC]
  try rfl
end Go.T
