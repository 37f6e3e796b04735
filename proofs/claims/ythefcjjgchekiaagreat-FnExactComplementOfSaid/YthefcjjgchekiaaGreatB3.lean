/- Normal cells. -/
import Derived.Test.YthefcjjgchekiaaGreatB2
set_option linter.unusedSimpArgs false
set_option linter.unusedVariables false
namespace Go.T
open Go Go.Proofs
set_option maxHeartbeats 4000000
set_option maxRecDepth 100000
noncomputable def qgo (N : Nat) (v1 : List (Val (.slice 108 qa))) (v3 : List (Val (.slice 108 qa))) (v4 : Int) (k0 : Int → Option (qb [i31])) : Nat → Int → Int → Option (qb [i31])
  | 0, _, _ => none
  | n + 1, v2, v5 => bif (decide (v5 < v4)) then (chk (0 ≤ v5 ∧ v5 < (v3.length : Int)) (bif (decide ((IntKind.i64.wrap (v2 + (((v3.getD v5.toNat (qc (.slice 108 qa))) : List (Val qa)).length : Int))) < (0 : Int))) then (none) else (qgo N v1 v3 v4 k0 n (IntKind.i64.wrap (v2 + (((v3.getD v5.toNat (qc (.slice 108 qa))) : List (Val qa)).length : Int))) (IntKind.i64.wrap (v5 + (1 : Int)))))) else (k0 v2)
noncomputable def qfh (N : Nat) (v8 : List (Val (.slice 108 qa))) (v9 : Int) (k2 : (List (Val qa)) → Option (qb [i31])) : Nat → Int → (List (Val qa)) → Option (qb [i31])
  | 0, _, _ => none
  | n + 1, v10, v11 => bif (decide (v10 < v9)) then (chk (0 ≤ v10 ∧ v10 < (v8.length : Int)) (chk (v11.length + ((v8.getD v10.toNat (qc (.slice 108 qa))) : List (Val qa)).length ≤ 1048576) (qfh N v8 v9 k2 n (IntKind.i64.wrap (v10 + (1 : Int))) (v11 ++ ((v8.getD v10.toNat (qc (.slice 108 qa))) : List (Val qa)))))) else (k2 v11)
noncomputable def qza (N : Nat) (v0 : List (Val (.slice 108 qa))) : Option (qb [i31]) := qgo N v0 v0 (v0.length : Int) (fun (v7 : Int) => chk (0 ≤ v7 ∧ v7 ≤ 1048576) (qfh N v0 (v0.length : Int) (fun (v13 : List (Val qa)) => some (v13, ())) N (0 : Int) ([] : List (Val qa)))) N (0 : Int) (0 : Int)
def qgt : Gam := []
def qsD : Nm := ⟨[true, false, false, true, false, false, false, false, false, true, true, true], [], false⟩
theorem qsi : qsD.zero = false := rfl
theorem qnh : qsD.fix = [] := rfl
theorem qqk : qsD.keep = [true, false, false, true, false, false, false, false, false, true, true, true] := rfl
def qtG : Nm := ⟨[false, false, false, false, false, false, true, false, false, false, false, false, false, false, false, false, false, false, false, false, false, false, false, false, false, true, true, true], [.und 6 0 108 qa], false⟩
theorem qnv : qtG.zero = false := rfl
theorem qr3 : qtG.fix = [.und 6 0 108 qa] := rfl
theorem qrg : qtG.keep = [false, false, false, false, false, false, true, false, false, false, false, false, false, false, false, false, false, false, false, false, false, false, false, false, false, true, true, true] := rfl
def qvq : Nm := ⟨[true, false, false, true], [], false⟩
theorem qtd : qvq.zero = false := rfl
theorem qsR : qvq.fix = [] := rfl
theorem qqf : qvq.keep = [true, false, false, true] := rfl
def quq : Nm := ⟨[false, false, false, false, false, false, true], [], false⟩
theorem qth : quq.zero = false := rfl
theorem ql2 : quq.fix = [] := rfl
theorem ql0 : quq.keep = [false, false, false, false, false, false, true] := rfl
def qgm : Nat → Tree := fun _ => .done
def qil : Nat → Nm := fun i => if i = 3 then qsD else if i = 11 then qtG else ⟨[], [], false⟩
noncomputable def qiV : Sem := qj7 [(284, .gr 108 qa)]
def qhZ : Nat → Option Jn := fun _ => none
def qio : Nat → Option Nm := fun i => if i = 0 then some qvq else if i = 2 then some quq else none
def qiP : Nat → Option Nm := fun _ => none
theorem zdU : qj qgm (Tryz.f219.body.getD .skip) = true := by kernel_rfl
noncomputable def qbB (N : Nat) : Tab := { tr := qgm, lp := qil, ex := qio, rg := qiP, jn := qhZ, fuel := N, sem := qiV }
theorem qq7 (N : Nat) : (qbB N).pins = false := rfl
theorem zdM (N : Nat) : qk Tryz.prog (qbB N) := qp fun _ => rfl
theorem qoP (N : Nat) : (qbB N).sem = qiV := rfl
theorem qpC (N : Nat) (i : Nat) : (qbB N).tr i = qgm i := rfl
theorem qsH (N : Nat) (i : Nat) : (qbB N).lp i = qil i := rfl
theorem qnG (N : Nat) (i : Nat) : (qbB N).ex i = qio i := rfl
theorem qsm (N : Nat) (i : Nat) : (qbB N).rg i = qiP i := rfl
theorem qqg (N : Nat) (i : Nat) : (qbB N).jn i = qhZ i := rfl
theorem qoh (N : Nat) : (qbB N).fuel = N := rfl
noncomputable def qUT : Code := cut [true, true, false, true, true, true] (Tryz.f219.body.getD .skip)
theorem zeI {N : Nat} {Q : X → St → Option (qb [i31])} {e : List LV} {h : List Blk} : qf tt qgt (qbB N) qUT Q ⟨e, h⟩ = qf tt qgt (qbB N) (cut [true, true, false, true, true, true] (Tryz.f219.body.getD .skip)) Q ⟨e, h⟩ := rfl
theorem qVX (N : Nat) (v1 : List (Val (.slice 108 qa))) (v3 : List (Val (.slice 108 qa))) (v4 : Int) {k0 : Int → Option (qb [i31])} {Q : X → St → Option (qb [i31])} {c : Code} (hc : c = qUT) (hret : ∀ st, Q .ret st = qE tt false [i31] [.tmp 2] st) (h0 : ∀ (v6 : Int), Q (.exit 0) ⟨[.one (.sl 31 (.slice 108 qa) v1 0), u, u, .one (.int .i64 v6), u, u, u, u, u, u, u, u, u, u, u, u, u, u, u, u, u, u, u, u, u, u, u, u, u, u, u, u, u, u, u, u], []⟩ = k0 v6) : ∀ (n : Nat) (v2 : Int) (v5 : Int), qF (qf tt qgt (qbB N) c) false qsD Q n ⟨[.one (.sl 31 (.slice 108 qa) v1 0), u, u, .one (.int .i64 v2), u, u, u, u, u, .one (.sl 31 (.slice 108 qa) v3 0), .one (.int .i64 v4), .one (.int .i64 v5), u, u, u, u, u, u, u, u, u, u, u, u, u, u, u, u, u, u, u, u, u, u, u, u], []⟩ = qgo N v1 v3 v4 k0 n v2 v5 := by
  subst hc; intro n; induction n with
  | zero => intros; rfl
  | succ n ih =>
    intro v2 v5
    rw [qM, zeI, qgo]; unfold Tryz.f219
    simp (maxSteps := 10000000) -implicitDefEqProofs [qpC, qgm, qsH, qil, qnG, qio, qsm, qiP, qqg, qhZ, qoh, qq7, qoP, qiV, q9, qnh, qqk, qsi, qr3, qrg, qnv, qsR, qqf, qtd, ql2, ql0, qth, hret, h0, ih]
noncomputable def qVl : Code := cut [true, true, true, true, false, true, true, true] (Tryz.f219.body.getD .skip)
theorem zc9 {N : Nat} {Q : X → St → Option (qb [i31])} {e : List LV} {h : List Blk} : qf tt qgt (qbB N) qVl Q ⟨e, h⟩ = qf tt qgt (qbB N) (cut [true, true, true, true, false, true, true, true] (Tryz.f219.body.getD .skip)) Q ⟨e, h⟩ := rfl
theorem q4E (N : Nat) (v8 : List (Val (.slice 108 qa))) (v9 : Int) {k2 : (List (Val qa)) → Option (qb [i31])} {Q : X → St → Option (qb [i31])} {c : Code} (hc : c = qVl) (hret : ∀ st, Q .ret st = qE tt false [i31] [.tmp 2] st) (h2 : ∀ (v12 : List (Val qa)), Q (.exit 2) ⟨[u, u, u, u, u, u, .one (.own 0), u, u, u, u, u, u, u, u, u, u, u, u, u, u, u, u, u, u, u, u, u, u, u, u, u, u, u, u, u], [.row 108 qa v12 false true 1]⟩ = k2 v12) : ∀ (n : Nat) (v10 : Int) (v11 : List (Val qa)), qF (qf tt qgt (qbB N) c) false qtG Q n ⟨[u, u, u, u, u, u, .one (.own 0), u, u, u, u, u, u, u, u, u, u, u, u, u, u, u, u, u, u, .one (.sl 31 (.slice 108 qa) v8 1), .one (.int .i64 v9), .one (.int .i64 v10), u, u, u, u, u, u, u, u], [.row 108 qa v11 false true 1]⟩ = qfh N v8 v9 k2 n v10 v11 := by
  subst hc; intro n; induction n with
  | zero => intros; rfl
  | succ n ih =>
    intro v10 v11
    rw [qM, zc9, qfh]; unfold Tryz.f219
    simp (maxSteps := 10000000) -implicitDefEqProofs [qpC, qgm, qsH, qil, qnG, qio, qsm, qiP, qqg, qhZ, qoh, qq7, qoP, qiV, q9, qnh, qqk, qsi, qr3, qrg, qnv, qsR, qqf, qtd, ql2, ql0, qth, hret, h2, ih]
theorem zbj (N : Nat) (v0 : List (Val (.slice 108 qa))) : qf tt qgt (qbB N) (Tryz.f219.body.getD .skip) (qm tt false [i31] [.tmp 2]) (qq [qyW] 36 (v0, ())) = qza N v0 := by
  unfold Tryz.f219
  simp (maxSteps := 10000000) -implicitDefEqProofs [qpC, qgm, qsH, qil, qnG, qio, qsm, qiP, qqg, qhZ, qoh, qq7, qoP, qiV, q9, qnh, qqk, qsi, qr3, qrg, qnv, qsR, qqf, qtd, ql2, ql0, qth]
  rewrite [qVX (k0 := (fun (v7 : Int) => chk (0 ≤ v7 ∧ v7 ≤ 1048576) (qfh N v0 (v0.length : Int) (fun (v13 : List (Val qa)) => some (v13, ())) N (0 : Int) ([] : List (Val qa))))) N _ _ _ ?_ ?_ ?_]
  · rewrite [qza]; first | rfl | simp (maxSteps := 10000000) -implicitDefEqProofs []
  · rfl
  · intro; simp only [qK, qJ, qL, qC]
  · intro v7; simp (maxSteps := 10000000) -implicitDefEqProofs [qpC, qgm, qsH, qil, qnG, qio, qsm, qiP, qqg, qhZ, qoh, qq7, qoP, qiV, q9, qnh, qqk, qsi, qr3, qrg, qnv, qsR, qqf, qtd, ql2, ql0, qth]
    rewrite [q4E (k2 := (fun (v13 : List (Val qa)) => some (v13, ()))) N _ _ ?_ ?_ ?_]
    · first | rfl | simp (maxSteps := 10000000) -implicitDefEqProofs []
    · rfl
    · intro; simp only [qK, qJ, qL, qC]
    · intro v13; simp (maxSteps := 10000000) -implicitDefEqProofs [qpC, qgm, qsH, qil, qnG, qio, qsm, qiP, qqg, qhZ, qoh, qq7, qoP, qiV, q9, qnh, qqk, qsi, qr3, qrg, qnv, qsR, qqf, qtd, ql2, ql0, qth]
noncomputable def qd6 (N : Nat) (v2 : Int) (v3 : List (Val qa)) (v4 : Int) (v6 : Int) (k0 : (List (Val qa)) → Option (qb [i33])) : Nat → Int → (List (Val qa)) → Option (qb [i33])
  | 0, _, _ => none
  | n + 1, v5, v7 => bif (decide (v5 < v4)) then (chk (0 ≤ v5 ∧ v5 < (v3.length : Int)) (chk (qkV (v3.getD v5.toNat (qc qa))) (bif (!((qab (v3.getD v5.toNat (qc qa))) : Bool)) then (bif (decide ((0 : Int) < (((v3.getD v5.toNat (qc qa)).2).1 : Int))) then (chk (qcV v2) (some ((((qaQ v2).1 : Int), ((qaQ v2).2 : List (Val qa))), ()))) else (bif (decide ((((v3.getD v5.toNat (qc qa)).2).1 : Int) = (0 : Int))) then (bif (((v3.getD v5.toNat (qc qa)).2).2 : Bool) then (chk (qcV v2) (some ((((qaQ v2).1 : Int), ((qaQ v2).2 : List (Val qa))), ()))) else (qd6 N v2 v3 v4 v6 k0 n (IntKind.i64.wrap (v5 + (1 : Int))) v7)) else (qd6 N v2 v3 v4 v6 k0 n (IntKind.i64.wrap (v5 + (1 : Int))) v7))) else (chk (qba (v3.getD v5.toNat (qc qa))) (chk (v7.length + ([(((idA (v3.getD v5.toNat (qc qa))).1 : List (Val (.int .i64))), (((idA (v3.getD v5.toNat (qc qa))).2).1 : Int), (((idA (v3.getD v5.toNat (qc qa))).2).2 : Bool))] : List (Val qa)).length ≤ 1048576) (qd6 N v2 v3 v4 v6 k0 n (IntKind.i64.wrap (v5 + (1 : Int))) (v7 ++ ([(((idA (v3.getD v5.toNat (qc qa))).1 : List (Val (.int .i64))), (((idA (v3.getD v5.toNat (qc qa))).2).1 : Int), (((idA (v3.getD v5.toNat (qc qa))).2).2 : Bool))] : List (Val qa))))))))) else (k0 v7)
noncomputable def qdt (N : Nat) (v10 : Int) (v12 : List (Val (hd qa))) (v13 : List (Val qa)) (v14 : Int) (v15 : List (Val (hd qa))) (v16 : Int) (k2 : (List (Val (hd qa))) → Option (qb [i33])) : Nat → Int → (List (Val (hd qa))) → Option (qb [i33])
  | 0, _, _ => none
  | n + 1, v11, v17 => bif (decide (v11 < v10)) then (chk (0 ≤ v11 ∧ v11 < (v15.length : Int)) (chk (v11.toNat < v15.length) (bif (decide ((IntKind.i64.wrap (v11 + (1 : Int))) < (v15.length : Int))) then (chk (0 ≤ (IntKind.i64.wrap (v11 + (1 : Int))) ∧ (IntKind.i64.wrap (v11 + (1 : Int))) < (v15.length : Int)) (chk ((IntKind.i64.wrap (v11 + (1 : Int))).toNat < v15.length) (chk (qP qa v13 v12 = v12 ∧ ((v15.getD v11.toNat (qc (hd qa))) ∈ v12 ∧ (v15.getD ((IntKind.i64.wrap (v11 + (1 : Int))).toNat) (qc (hd qa))) ∈ v12) ∧ qc6 (lk qa v12 v13 (v15.getD v11.toNat (qc (hd qa)))) (lk qa v12 v13 (v15.getD ((IntKind.i64.wrap (v11 + (1 : Int))).toNat) (qc (hd qa))))) (bif (decide (((qa1 (lk qa v12 v13 (v15.getD v11.toNat (qc (hd qa)))) (lk qa v12 v13 (v15.getD ((IntKind.i64.wrap (v11 + (1 : Int))).toNat) (qc (hd qa))))) : Int) = (0 : Int))) then (qdt N v10 v12 v13 v14 v15 v16 k2 n (IntKind.i64.wrap (v11 + (1 : Int))) v17) else (chk (v17.length + ([(v15.getD v11.toNat (qc (hd qa)))] : List (Val (hd qa))).length ≤ 1048576) (qdt N v10 v12 v13 v14 v15 v16 k2 n (IntKind.i64.wrap (v11 + (1 : Int))) (v17 ++ ([(v15.getD v11.toNat (qc (hd qa)))] : List (Val (hd qa)))))))))) else (chk (v17.length + ([(v15.getD v11.toNat (qc (hd qa)))] : List (Val (hd qa))).length ≤ 1048576) (qdt N v10 v12 v13 v14 v15 v16 k2 n (IntKind.i64.wrap (v11 + (1 : Int))) (v17 ++ ([(v15.getD v11.toNat (qc (hd qa)))] : List (Val (hd qa))))))))) else (k2 v17)
noncomputable def qwA (N : Nat) (v0 : Int) (v1 : List (Val qa)) : Option (qb [i33]) := qd6 N v0 v1 (v1.length : Int) (0 : Int) (fun (v9 : List (Val qa)) => chk (qem.pre v9) (qds (fun p1 : List Nat × List (Val (hd qa)) => qc3 qa p1.2 (qaj v9)) (fun p1 => qdt N (p1.2.length : Int) p1.2 (qaj v9) (0 : Int) p1.2 v0 (fun (v19 : List (Val (hd qa))) => chk (v19 = (qbY (qaj v9)).map (fun i => p1.2.getD i (qc (hd qa))) ∧ (qbY (qaj v9)).Nodup ∧ (∀ i ∈ (qbY (qaj v9)), i < (qaj v9).length) ∧ qP qa (qaj v9) p1.2 = p1.2 ∧ p1.2.length = (qaj v9).length) (some ((v0, ((qbY (qaj v9)).map (fun i => (qaj v9).getD i (qc qa)))), ()))) N (0 : Int) ([] : List (Val (hd qa)))))) N (0 : Int) ([] : List (Val qa))
def qdf : Gam := [(213, qbS), (236, qgk), (287, qdu), (290, qdr)]
theorem qml : Gam.get qdf 213 = some qbS := rfl
theorem qoM : Gam.get qdf 236 = some qgk := rfl
theorem qme : Gam.get qdf 287 = some qdu := rfl
theorem qnr : Gam.get qdf 290 = some qdr := rfl
def qoH : Nm := ⟨[true, false, false, false, true, true, false, false, false, false, false, false, true, true, true], [], false⟩
theorem qsq : qoH.zero = false := rfl
theorem qos : qoH.fix = [] := rfl
theorem qru : qoH.keep = [true, false, false, false, true, true, false, false, false, false, false, false, true, true, true] := rfl
def qnC : Nm := ⟨[false, false, false, false, true, true, false, false, true, false, false, false, false, false, false, false, false, false, false, false, false, false, false, false, false, false, false, false, false, false, false, false, false, false, false, false, false, false, false, false, false, false, false, false, false, false, true, true, true], [], false⟩
theorem qpj : qnC.zero = false := rfl
theorem qnd : qnC.fix = [] := rfl
theorem qo2 : qnC.keep = [false, false, false, false, true, true, false, false, true, false, false, false, false, false, false, false, false, false, false, false, false, false, false, false, false, false, false, false, false, false, false, false, false, false, false, false, false, false, false, false, false, false, false, false, false, false, true, true, true] := rfl
def qyq : Nm := ⟨[true, false, false, false, true, true], [], false⟩
theorem qoG : qyq.zero = false := rfl
theorem qr5 : qyq.fix = [] := rfl
theorem qoT : qyq.keep = [true, false, false, false, true, true] := rfl
def qy0 : Nm := ⟨[false, false, false, false, true, false, false, false, true], [], false⟩
theorem qqM : qy0.zero = false := rfl
theorem qnW : qy0.fix = [] := rfl
theorem qmg : qy0.keep = [false, false, false, false, true, false, false, false, true] := rfl
def qgx : Nat → Tree := fun i => if i = 15 then .quiet 0 (.quiet 1 (.quiet 2 (.quiet 3 (.quiet 4 (.quiet 5 (.quiet 6 (.quiet 7 (.quiet 8 (.quiet 9 (.quiet 10 (.quiet 11 (.alt 12 (.quiet 13 (.quiet 14 .done)) .stop)))))))))))) else .done
def qhJ : Nat → Nm := fun i => if i = 3 then qoH else if i = 13 then qnC else ⟨[], [], false⟩
noncomputable def qh6 : Sem := qj7 [(288, .sr qem)]
noncomputable def qfu : Nat → Option Jn := fun i => if i = 11 then some (.at none (some ttH)) else if i = 12 then some (.at (some (.opn 1 qa)) none) else if i = 16 then some (.at none (some ttH)) else if i = 18 then some (.at (some (.cls 3 0 qa qbY)) none) else none
def qiM : Nat → Option Nm := fun i => if i = 0 then some qyq else if i = 2 then some qy0 else none
def qh7 : Nat → Option Nm := fun _ => none
theorem q4J : qj qgx (Tryz.f230.body.getD .skip) = true := by kernel_rfl
noncomputable def qbs (N : Nat) : Tab := { tr := qgx, lp := qhJ, ex := qiM, rg := qh7, jn := qfu, fuel := N, sem := qh6 }
theorem qrl (N : Nat) : (qbs N).pins = false := rfl
theorem q6Q (N : Nat) : qk Tryz.prog (qbs N) := fun id j t h ht => by
  have h : qfu id = _ := h
  unfold qfu at h
  repeat' split at h
  all_goals first | (simp at h; done) | (simp only [Option.some.injEq] at h; subst h; simp [Jn.tb] at ht; done) | (simp only [Option.some.injEq] at h; subst h; simp only [Jn.tb, Option.some.injEq] at ht; subst ht; exact hTH)
theorem qqF (N : Nat) : (qbs N).sem = qh6 := rfl
theorem qsb (N : Nat) (i : Nat) : (qbs N).tr i = qgx i := rfl
theorem qpq (N : Nat) (i : Nat) : (qbs N).lp i = qhJ i := rfl
theorem qrm (N : Nat) (i : Nat) : (qbs N).ex i = qiM i := rfl
theorem qmM (N : Nat) (i : Nat) : (qbs N).rg i = qh7 i := rfl
theorem qqW (N : Nat) (i : Nat) : (qbs N).jn i = qfu i := rfl
theorem qnc (N : Nat) : (qbs N).fuel = N := rfl
noncomputable def qQT : Code := cut [true, true, false, true, true, true] (Tryz.f230.body.getD .skip)
theorem qZ2 {N : Nat} {Q : X → St → Option (qb [i33])} {e : List LV} {h : List Blk} : qf tt qdf (qbs N) qQT Q ⟨e, h⟩ = qf tt qdf (qbs N) (cut [true, true, false, true, true, true] (Tryz.f230.body.getD .skip)) Q ⟨e, h⟩ := rfl
theorem zd5 (N : Nat) (v2 : Int) (v3 : List (Val qa)) (v4 : Int) (v6 : Int) {k0 : (List (Val qa)) → Option (qb [i33])} {Q : X → St → Option (qb [i33])} {c : Code} (hc : c = qQT) (hret : ∀ st, Q .ret st = qE tt true [i33] [.cell 4 33] st) (h0 : ∀ (v8 : List (Val qa)), Q (.exit 0) ⟨[.one (.int .i64 v2), u, u, u, .one (.ptr 0 0 0), .one (.own 1), u, u, u, u, u, u, u, u, u, u, u, u, u, u, u, u, u, u, u, u, u, u, u, u, u, u, u, u, u, u, u, u, u, u, u, u, u, u, u, u, u, u, u, u, u, u, u, u, u, u, u, u, u, u, u, u, u, u, u, u, u, u, u, u, u, u, u, u, u, u], [.box [.int .i64 v6, .nils], .row 108 qa v8 true true 0]⟩ = k0 v8) : ∀ (n : Nat) (v5 : Int) (v7 : List (Val qa)), qF (qf tt qdf (qbs N) c) false qoH Q n ⟨[.one (.int .i64 v2), u, u, u, .one (.ptr 0 0 0), .one (.own 1), u, u, u, u, u, u, .one (.sl 108 qa v3 2), .one (.int .i64 v4), .one (.int .i64 v5), u, u, u, u, u, u, u, u, u, u, u, u, u, u, u, u, u, u, u, u, u, u, u, u, u, u, u, u, u, u, u, u, u, u, u, u, u, u, u, u, u, u, u, u, u, u, u, u, u, u, u, u, u, u, u, u, u, u, u, u, u], [.box [.int .i64 v6, .nils], .row 108 qa v7 true true 0]⟩ = qd6 N v2 v3 v4 v6 k0 n v5 v7 := by
  subst hc; intro n; induction n with
  | zero => intros; rfl
  | succ n ih =>
    intro v5 v7
    rw [qM, qZ2, qd6]; unfold Tryz.f230
    simp (maxSteps := 10000000) -implicitDefEqProofs [qsb, qgx, qpq, qhJ, qrm, qiM, qmM, qh7, qqW, qfu, qnc, qrl, qqF, qh6, q9, qem, qah (id := 11), qak (id := 11), qah (id := 12), qak (id := 12), qah (id := 16), qak (id := 16), qah (id := 18), qak (id := 18), qos, qru, qsq, qnd, qo2, qpj, qr5, qoT, qoG, qnW, qmg, qqM, qml, qoM, qme, qnr, qbS, qgk, qdu, qdr, hret, h0, ih]
noncomputable def qSq : Code := cut [true, true, true, true, true, false, true, true, true] (Tryz.f230.body.getD .skip)
theorem qZR {N : Nat} {Q : X → St → Option (qb [i33])} {e : List LV} {h : List Blk} : qf tt qdf (qbs N) qSq Q ⟨e, h⟩ = qf tt qdf (qbs N) (cut [true, true, true, true, true, false, true, true, true] (Tryz.f230.body.getD .skip)) Q ⟨e, h⟩ := rfl
theorem qV2 (N : Nat) (F : List Nat) (v10 : Int) (v12 : List (Val (hd qa))) (v13 : List (Val qa)) (v14 : Int) (v15 : List (Val (hd qa))) (v16 : Int) {k2 : (List (Val (hd qa))) → Option (qb [i33])} {Q : X → St → Option (qb [i33])} {c : Code} (hc : c = qSq) (hret : ∀ st, Q .ret st = qE tt true [i33] [.cell 4 33] st) (h2 : ∀ (v18 : List (Val (hd qa))), Q (.exit 2) ⟨[u, u, u, u, .one (.ptr 1 0 0), u, u, u, .one (.ptr 2 0 0), u, u, u, u, u, u, u, u, u, u, u, u, u, u, u, u, u, u, u, u, u, u, u, u, u, u, u, u, u, u, u, u, u, u, u, u, u, u, u, u, u, u, u, u, u, u, u, u, u, u, u, u, u, u, u, u, u, u, u, u, u, u, u, u, u, u, u], [.nst F qa v12 v13, .box [.int .i64 v14, .nils], .box [.int .i64 v16, .own 3], .row 108 (hd qa) v18 true true 0]⟩ = k2 v18) : ∀ (n : Nat) (v11 : Int) (v17 : List (Val (hd qa))), qF (qf tt qdf (qbs N) c) false qnC Q n ⟨[u, u, u, u, .one (.ptr 1 0 0), .one (.own 2), u, u, .one (.ptr 3 0 0), u, u, u, u, u, u, u, u, u, u, u, u, u, u, u, u, u, u, u, u, u, u, u, u, u, u, u, u, u, u, u, u, u, u, u, u, u, .one (.own 2), .one (.int .i64 v10), .one (.int .i64 v11), u, u, u, u, u, u, u, u, u, u, u, u, u, u, u, u, u, u, u, u, u, u, u, u, u, u, u], [.nst F qa v12 v13, .box [.int .i64 v14, .nils], .row 108 (hd qa) v15 true true 0, .box [.int .i64 v16, .own 4], .row 108 (hd qa) v17 true true 0]⟩ = qdt N v10 v12 v13 v14 v15 v16 k2 n v11 v17 := by
  subst hc; intro n; induction n with
  | zero => intros; rfl
  | succ n ih =>
    intro v11 v17
    rw [qM, qZR, qdt]; unfold Tryz.f230
    simp (maxSteps := 10000000) -implicitDefEqProofs [qsb, qgx, qpq, qhJ, qrm, qiM, qmM, qh7, qqW, qfu, qnc, qrl, qqF, qh6, q9, qem, qah (id := 11), qak (id := 11), qah (id := 12), qak (id := 12), qah (id := 16), qak (id := 16), qah (id := 18), qak (id := 18), qos, qru, qsq, qnd, qo2, qpj, qr5, qoT, qoG, qnW, qmg, qqM, qml, qoM, qme, qnr, qbS, qgk, qdu, qdr, hret, h2, ih]
theorem q2C (N : Nat) (v0 : Int) (v1 : List (Val qa)) : qf tt qdf (qbs N) (Tryz.f230.body.getD .skip) (qm tt true [i33] [.cell 4 33]) (qq [i3, i31] 76 (v0, v1, ())) = qwA N v0 v1 := by
  unfold Tryz.f230
  simp (maxSteps := 10000000) -implicitDefEqProofs [qsb, qgx, qpq, qhJ, qrm, qiM, qmM, qh7, qqW, qfu, qnc, qrl, qqF, qh6, q9, qem, qah (id := 11), qak (id := 11), qah (id := 12), qak (id := 12), qah (id := 16), qak (id := 16), qah (id := 18), qak (id := 18), qos, qru, qsq, qnd, qo2, qpj, qr5, qoT, qoG, qnW, qmg, qqM, qml, qoM, qme, qnr, qbS, qgk, qdu, qdr]
  rewrite [zd5 (k0 := (fun (v9 : List (Val qa)) => chk (qem.pre v9) (qds (fun p1 : List Nat × List (Val (hd qa)) => qc3 qa p1.2 (qaj v9)) (fun p1 => qdt N (p1.2.length : Int) p1.2 (qaj v9) (0 : Int) p1.2 v0 (fun (v19 : List (Val (hd qa))) => chk (v19 = (qbY (qaj v9)).map (fun i => p1.2.getD i (qc (hd qa))) ∧ (qbY (qaj v9)).Nodup ∧ (∀ i ∈ (qbY (qaj v9)), i < (qaj v9).length) ∧ qP qa (qaj v9) p1.2 = p1.2 ∧ p1.2.length = (qaj v9).length) (some ((v0, ((qbY (qaj v9)).map (fun i => (qaj v9).getD i (qc qa)))), ()))) N (0 : Int) ([] : List (Val (hd qa))))))) N _ _ _ _ ?_ ?_ ?_]
  · rewrite [qwA]; first | rfl | simp (maxSteps := 10000000) -implicitDefEqProofs []
  · rfl
  · intro; simp only [qK, qJ, qL, qC]
  · intro v9; simp (maxSteps := 10000000) -implicitDefEqProofs [qsb, qgx, qpq, qhJ, qrm, qiM, qmM, qh7, qqW, qfu, qnc, qrl, qqF, qh6, q9, qem, qah (id := 11), qak (id := 11), qah (id := 12), qak (id := 12), qah (id := 16), qak (id := 16), qah (id := 18), qak (id := 18), qos, qru, qsq, qnd, qo2, qpj, qr5, qoT, qoG, qnW, qmg, qqM, qml, qoM, qme, qnr, qbS, qgk, qdu, qdr]
    repeat' (first | refine qTC fun _ => ?_ | refine qTV fun p1 _ => ?_)
    rewrite [qV2 (k2 := (fun (v19 : List (Val (hd qa))) => chk (v19 = (qbY (qaj v9)).map (fun i => p1.2.getD i (qc (hd qa))) ∧ (qbY (qaj v9)).Nodup ∧ (∀ i ∈ (qbY (qaj v9)), i < (qaj v9).length) ∧ qP qa (qaj v9) p1.2 = p1.2 ∧ p1.2.length = (qaj v9).length) (some ((v0, ((qbY (qaj v9)).map (fun i => (qaj v9).getD i (qc qa)))), ())))) N _ _ _ _ _ _ _ ?_ ?_ ?_]
    · first | rfl | simp (maxSteps := 10000000) -implicitDefEqProofs []
    · rfl
    · intro; simp only [qK, qJ, qL, qC]
    · intro v19; simp (maxSteps := 10000000) -implicitDefEqProofs [qsb, qgx, qpq, qhJ, qrm, qiM, qmM, qh7, qqW, qfu, qnc, qrl, qqF, qh6, q9, qem, qah (id := 11), qak (id := 11), qah (id := 12), qak (id := 12), qah (id := 16), qak (id := 16), qah (id := 18), qak (id := 18), qos, qru, qsq, qnd, qo2, qpj, qr5, qoT, qoG, qnW, qmg, qqM, qml, qoM, qme, qnr, qbS, qgk, qdu, qdr]
end Go.T
