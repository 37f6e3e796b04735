/- A cell taken from a region: run. -/
import Derived.Test.YthefcjjgchekiaaGreatE9
import Derived.Test.YthefcjjgchekiaaGreatB6n
set_option linter.unusedSimpArgs false
set_option linter.unusedVariables false
namespace Go.T
open Go Go.Proofs
set_option maxHeartbeats 4000000
set_option maxRecDepth 100000
def qbr (d : Int) (l : List (Val qa)) (k : Nat) : Val Y33 := (d, l.take k ++ [(qh (l.getD k dA)).1])
def qa6 (d : Int) (l : List (Val qa)) (c : Val Y33) : Nat → Nat → Val Y50 → Val Y50 × Bool
  | 0, _, r => (r, true)
  | n + 1, k, r => bif (qO c (qbr d l k)).2 then (bif (q4 r (qO c (qbr d l k)).1).2 then qa6 d l c n (k + 1) (q4 r (qO c (qbr d l k)).1).1 else qaR) else qaR
def qbo (d : Int) (l : List (Val qa)) : List (Val Y33) → Val Y50 → Val Y50 × Bool
  | [], r => (r, true)
  | c :: cs, r => bif (qa6 d l c l.length 0 r).2 then qbo d l cs (qa6 d l c l.length 0 r).1 else qaR
def qa2 (r : Val Y50) (m : Val Y33) : Val Y50 × Bool := qbo r.1 m.2 r.2 (r.1, [])
def qut (r : Val Y50) (m : Val Y33) : Prop := qV r = true ∧ qz m = true ∧ (m.1 : Int) = (r.1 : Int)
def qkt : G := { ps := [i50, i33], rs := [i50, i4], dp := true, pre := fun x => qut x.1 x.2.1, fn := fun x => ((qa2 x.1 x.2.1).1, (qa2 x.1 x.2.1).2, ()) }
noncomputable def qgJ (N : Nat) (v31 : List (Val Y33)) (v32 : Int) (v33 : Int) (v34 : List (Val qa)) (v35 : Int) (v37 : Int) (v38 : List (Val Y33)) (v39 : Int) (v40 : List (Val qa)) (v41 : Int) (v43 : Int) (v44 : List (Val qa)) (k2 : Int → (List (Val Y33)) → Option (qb [i50, i4])) : Nat → Int → Int → (List (Val Y33)) → Option (qb [i50, i4])
  | 0, _, _, _ => none
  | n + 1, v36, v42, v45 => bif (decide (v36 < v35)) then (chk (0 ≤ v36 ∧ v36 < (v34.length : Int)) (bif (!((qh (v34.getD v36.toNat (qc qa))).2 : Bool)) then (some (((0 : Int), ([] : List (Val Y33))), false, ())) else (chk (0 ≤ (0 : Int) ∧ (0 : Int) ≤ v36 ∧ v36 ≤ (v40.length : Int)) (chk (([] : List (Val qa)).length + ((v40.take v36.toNat).drop (0 : Int).toNat).length ≤ 1048576) (chk ((([] : List (Val qa)) ++ ((v40.take v36.toNat).drop (0 : Int).toNat)).length + ([((((qh (v34.getD v36.toNat (qc qa))).1).1 : List (Val (.int .i64))), ((((qh (v34.getD v36.toNat (qc qa))).1).2).1 : Int), ((((qh (v34.getD v36.toNat (qc qa))).1).2).2 : Bool))] : List (Val qa)).length ≤ 1048576) (bif (!((qO (v43, v44) (v37, ((([] : List (Val qa)) ++ ((v40.take v36.toNat).drop (0 : Int).toNat)) ++ ([((((qh (v34.getD v36.toNat (qc qa))).1).1 : List (Val (.int .i64))), ((((qh (v34.getD v36.toNat (qc qa))).1).2).1 : Int), ((((qh (v34.getD v36.toNat (qc qa))).1).2).2 : Bool))] : List (Val qa))))).2 : Bool)) then (some (((0 : Int), ([] : List (Val Y33))), false, ())) else (chk (qhy (v42, v45) ((((qO (v43, v44) (v37, ((([] : List (Val qa)) ++ ((v40.take v36.toNat).drop (0 : Int).toNat)) ++ ([((((qh (v34.getD v36.toNat (qc qa))).1).1 : List (Val (.int .i64))), ((((qh (v34.getD v36.toNat (qc qa))).1).2).1 : Int), ((((qh (v34.getD v36.toNat (qc qa))).1).2).2 : Bool))] : List (Val qa))))).1).1 : Int), (((qO (v43, v44) (v37, ((([] : List (Val qa)) ++ ((v40.take v36.toNat).drop (0 : Int).toNat)) ++ ([((((qh (v34.getD v36.toNat (qc qa))).1).1 : List (Val (.int .i64))), ((((qh (v34.getD v36.toNat (qc qa))).1).2).1 : Int), ((((qh (v34.getD v36.toNat (qc qa))).1).2).2 : Bool))] : List (Val qa))))).1).2 : List (Val qa)))) (bif (!((qqa (v42, v45) ((((qO (v43, v44) (v37, ((([] : List (Val qa)) ++ ((v40.take v36.toNat).drop (0 : Int).toNat)) ++ ([((((qh (v34.getD v36.toNat (qc qa))).1).1 : List (Val (.int .i64))), ((((qh (v34.getD v36.toNat (qc qa))).1).2).1 : Int), ((((qh (v34.getD v36.toNat (qc qa))).1).2).2 : Bool))] : List (Val qa))))).1).1 : Int), (((qO (v43, v44) (v37, ((([] : List (Val qa)) ++ ((v40.take v36.toNat).drop (0 : Int).toNat)) ++ ([((((qh (v34.getD v36.toNat (qc qa))).1).1 : List (Val (.int .i64))), ((((qh (v34.getD v36.toNat (qc qa))).1).2).1 : Int), ((((qh (v34.getD v36.toNat (qc qa))).1).2).2 : Bool))] : List (Val qa))))).1).2 : List (Val qa)))) : Bool)) then (some (((0 : Int), ([] : List (Val Y33))), false, ())) else (qgJ N v31 v32 v33 v34 v35 v37 v38 v39 v40 v41 v43 v44 k2 n (IntKind.i64.wrap (v36 + (1 : Int))) ((qhR (v42, v45) ((((qO (v43, v44) (v37, ((([] : List (Val qa)) ++ ((v40.take v36.toNat).drop (0 : Int).toNat)) ++ ([((((qh (v34.getD v36.toNat (qc qa))).1).1 : List (Val (.int .i64))), ((((qh (v34.getD v36.toNat (qc qa))).1).2).1 : Int), ((((qh (v34.getD v36.toNat (qc qa))).1).2).2 : Bool))] : List (Val qa))))).1).1 : Int), (((qO (v43, v44) (v37, ((([] : List (Val qa)) ++ ((v40.take v36.toNat).drop (0 : Int).toNat)) ++ ([((((qh (v34.getD v36.toNat (qc qa))).1).1 : List (Val (.int .i64))), ((((qh (v34.getD v36.toNat (qc qa))).1).2).1 : Int), ((((qh (v34.getD v36.toNat (qc qa))).1).2).2 : Bool))] : List (Val qa))))).1).2 : List (Val qa)))).1 : Int) ((qhR (v42, v45) ((((qO (v43, v44) (v37, ((([] : List (Val qa)) ++ ((v40.take v36.toNat).drop (0 : Int).toNat)) ++ ([((((qh (v34.getD v36.toNat (qc qa))).1).1 : List (Val (.int .i64))), ((((qh (v34.getD v36.toNat (qc qa))).1).2).1 : Int), ((((qh (v34.getD v36.toNat (qc qa))).1).2).2 : Bool))] : List (Val qa))))).1).1 : Int), (((qO (v43, v44) (v37, ((([] : List (Val qa)) ++ ((v40.take v36.toNat).drop (0 : Int).toNat)) ++ ([((((qh (v34.getD v36.toNat (qc qa))).1).1 : List (Val (.int .i64))), ((((qh (v34.getD v36.toNat (qc qa))).1).2).1 : Int), ((((qh (v34.getD v36.toNat (qc qa))).1).2).2 : Bool))] : List (Val qa))))).1).2 : List (Val qa)))).2 : List (Val Y33))))))))))) else (k2 v42 v45)
noncomputable def qgd (N : Nat) (v2 : List (Val Y33)) (v3 : Int) (v5 : Int) (v6 : List (Val Y33)) (v7 : Int) (v8 : List (Val qa)) (v9 : Int) (k0 : Int → (List (Val Y33)) → Option (qb [i50, i4])) : Nat → Int → Int → (List (Val Y33)) → Option (qb [i50, i4])
  | 0, _, _, _ => none
  | n + 1, v4, v10, v11 => bif (decide (v4 < v3)) then (chk (0 ≤ v4 ∧ v4 < (v2.length : Int)) (qgJ N v2 v3 v4 v8 (v8.length : Int) v5 v6 v7 v8 v9 ((v2.getD v4.toNat (qc Y33)).1 : Int) ((v2.getD v4.toNat (qc Y33)).2 : List (Val qa)) (fun (v48 : Int) (v49 : List (Val Y33)) => qgd N v2 v3 v5 v6 v7 v8 v9 k0 n (IntKind.i64.wrap (v4 + (1 : Int))) v48 v49) N (0 : Int) v10 v11)) else (k0 v10 v11)
noncomputable def qyK (N : Nat) (v0 : Val Y50) (v1 : Val Y33) : Option (qb [i50, i4]) := qgd N (v0.2 : List (Val Y33)) ((v0.2 : List (Val Y33)).length : Int) (v0.1 : Int) (v0.2 : List (Val Y33)) (v1.1 : Int) (v1.2 : List (Val qa)) (0 : Int) (fun (v52 : Int) (v53 : List (Val Y33)) => some ((v52, v53), true, ())) N (0 : Int) (v0.1 : Int) ([] : List (Val Y33))
def qdm : Gam := [(182, qdl), (221, qdL)]
theorem qmT : Gam.get qdm 182 = some qdl := rfl
theorem qpa : Gam.get qdm 221 = some qdL := rfl
theorem qon : Gam.get qdm 222 = none := rfl
def qty : Nm := ⟨[false, false, true, true, true, false, true, false, true, false, false, false, false, false, false, false, false, false, false, false, true, true, true, false, false, false, false, true, true, true], [], true⟩
theorem qna : qty.zero = true := rfl
theorem qr2 : qty.fix = [] := rfl
theorem qoE : qty.keep = [false, false, true, true, true, false, true, false, true, false, false, false, false, false, false, false, false, false, false, false, true, true, true, false, false, false, false, true, true, true] := rfl
def qqR : Nm := ⟨[false, false, true, true, true, false, true, false, false, false, false, false, false, false, false, false, false, false, false, false, true, true, true], [], true⟩
theorem qnD : qqR.zero = true := rfl
theorem qqO : qqR.fix = [] := rfl
theorem qsX : qqR.keep = [false, false, true, true, true, false, true, false, false, false, false, false, false, false, false, false, false, false, false, false, true, true, true] := rfl
def qx0 : Nm := ⟨[false, false, false, false, true, false, true], [], true⟩
theorem qsx : qx0.zero = true := rfl
theorem qq9 : qx0.fix = [] := rfl
theorem qpl : qx0.keep = [false, false, false, false, true, false, true] := rfl
def qwC : Nm := ⟨[false, false, true, true, true, false, true, false, false, false, false, false, false, false, false, false, false, false, false, false, true, true, true], [], true⟩
theorem qpI : qwC.zero = true := rfl
theorem qrp : qwC.fix = [] := rfl
theorem qmj : qwC.keep = [false, false, true, true, true, false, true, false, false, false, false, false, false, false, false, false, false, false, false, false, true, true, true] := rfl
def qu0 : Nm := ⟨[false, false, true, true, true, false, true, false, true, false, false, false, false, true, false, false, false, false, false, false, true, true, true, false, false, false, false, true, true, true], [], true⟩
theorem qm6 : qu0.zero = true := rfl
theorem qrI : qu0.fix = [] := rfl
theorem qnQ : qu0.keep = [false, false, true, true, true, false, true, false, true, false, false, false, false, true, false, false, false, false, false, false, true, true, true, false, false, false, false, true, true, true] := rfl
def qiU : Sem := qjY [(222, qdK)] []
def qf7 : Nat → Tree := fun i => if i = 11 then .first 5 (.keep 0 (.keep 1 (.keep 3 (.keep 4 (.keep 8 (.pure 6 (.alt 2 (.alt 7 (.alt 9 (.alt 10 (.first 11 (.alt 12 (.alt 13 .done .stop) .stop)) (.alt 12 (.alt 10 (.quiet 11 (.alt 13 .done .stop)) .stop) .stop)) (.alt 12 (.alt 9 (.alt 10 (.quiet 11 (.alt 13 .done .stop)) .stop) .stop) .stop)) (.alt 9 (.alt 7 (.alt 10 (.first 11 (.alt 12 (.alt 13 .done .stop) .stop)) (.alt 12 (.alt 10 (.quiet 11 (.alt 13 .done .stop)) .stop) .stop)) (.alt 12 (.alt 7 (.alt 10 (.quiet 11 (.alt 13 .done .stop)) .stop) .stop) .stop)) (.alt 12 (.alt 7 (.alt 9 (.alt 10 (.quiet 11 (.alt 13 .done .stop)) .stop) .stop) (.alt 9 (.alt 7 (.alt 10 (.quiet 11 (.alt 13 .done .stop)) .stop) .stop) .stop)) .stop))) (.alt 9 (.alt 2 (.alt 7 (.alt 10 (.first 11 (.alt 12 (.alt 13 .done .stop) .stop)) (.alt 12 (.alt 10 (.quiet 11 (.alt 13 .done .stop)) .stop) .stop)) (.alt 12 (.alt 7 (.alt 10 (.quiet 11 (.alt 13 .done .stop)) .stop) .stop) .stop)) (.alt 12 (.alt 2 (.alt 7 (.alt 10 (.quiet 11 (.alt 13 .done .stop)) .stop) .stop) .stop) .stop)) (.alt 12 (.alt 2 (.alt 7 (.alt 9 (.alt 10 (.quiet 11 (.alt 13 .done .stop)) .stop) .stop) (.alt 9 (.alt 7 (.alt 10 (.quiet 11 (.alt 13 .done .stop)) .stop) .stop) .stop)) (.alt 9 (.alt 2 (.alt 7 (.alt 10 (.quiet 11 (.alt 13 .done .stop)) .stop) .stop) .stop) .stop)) .stop))))))))) else .done
def qhV : Nat → Nm := fun i => if i = 6 then qty else if i = 3 then qqR else ⟨[], [], false⟩
def qiO : Nat → Option Jn := fun _ => none
def qhq : Nat → Option Nm := fun i => if i = 0 then some qx0 else if i = 2 then some qwC else none
def qhG : Nat → Option Nm := fun i => if i = 11 then some qu0 else none
theorem q8E : qj qf7 (Tryz.f139.body.getD .skip) = true := by kernel_rfl
def qbt (N : Nat) : Tab := { tr := qf7, lp := qhV, ex := qhq, rg := qhG, jn := qiO, fuel := N, sem := qiU }
theorem qtD (N : Nat) : (qbt N).pins = false := rfl
theorem q5C (N : Nat) : qk Tryz.prog (qbt N) := qp fun _ => rfl
theorem ql8 (N : Nat) : (qbt N).sem = qiU := rfl
theorem qmE (N : Nat) (i : Nat) : (qbt N).tr i = qf7 i := rfl
theorem qp9 (N : Nat) (i : Nat) : (qbt N).lp i = qhV i := rfl
theorem qma (N : Nat) (i : Nat) : (qbt N).ex i = qhq i := rfl
theorem qrs (N : Nat) (i : Nat) : (qbt N).rg i = qhG i := rfl
theorem qmJ (N : Nat) (i : Nat) : (qbt N).jn i = qiO i := rfl
theorem qtz (N : Nat) : (qbt N).fuel = N := rfl
noncomputable def qS7 : Code := cut [true, true, false, true, true, true, true, true, false, true, true, true, true, true] (Tryz.f139.body.getD .skip)
theorem q4r {N : Nat} {Q : X → St → Option (qb [i50, i4])} {e : List LV} {h : List Blk} : qf tt qdm (qbt N) qS7 Q ⟨e, h⟩ = qf tt qdm (qbt N) (cut [true, true, false, true, true, true, true, true, false, true, true, true, true, true] (Tryz.f139.body.getD .skip)) Q ⟨e, h⟩ := rfl
theorem q92 (N : Nat) (v31 : List (Val Y33)) (v32 : Int) (v33 : Int) (v34 : List (Val qa)) (v35 : Int) (v37 : Int) (v38 : List (Val Y33)) (v39 : Int) (v40 : List (Val qa)) (v41 : Int) (v43 : Int) (v44 : List (Val qa)) {k2 : Int → (List (Val Y33)) → Option (qb [i50, i4])} {Q : X → St → Option (qb [i50, i4])} {c : Code} (hc : c = qS7) (hret : ∀ st, Q .ret st = qE tt true [i50, i4] [.cell 4 50, .tmp 5] st) (h2 : ∀ (v46 : Int) (v47 : List (Val Y33)), Q (.exit 2) ⟨[u, u, .one (.ptr 0 0 0), .one (.ptr 1 0 0), .one (.ptr 2 0 0), u, .one (.ptr 3 0 0), u, u, u, u, u, u, u, u, u, u, u, u, u, .one (.sl 33 Y33 v31 0), .one (.int .i64 v32), .one (.int .i64 v33), u, u, u, u, u, u, u, u, u, u, u, u, u, u, u, u, u, u, u, u, u, u, u, u, u, u, u, u, u, u, u, u, u, u, u, u, u, u, u, u, u, u, u, u, u, u, u, u], [.box [.int .i64 v37, .sl 33 Y33 v38 0], .box [.int .i64 v39, .sl 108 qa v40 0], .box [.int .i64 v41, .nils], .box [.int .i64 v46, .own 4], .row 33 Y33 v47 true true 0]⟩ = k2 v46 v47) : ∀ (n : Nat) (v36 : Int) (v42 : Int) (v45 : List (Val Y33)), qF (qf tt qdm (qbt N) c) false qty Q n ⟨[u, u, .one (.ptr 0 0 0), .one (.ptr 1 0 0), .one (.ptr 2 0 0), u, .one (.ptr 3 0 0), u, .one (.ptr 4 0 0), u, u, u, u, u, u, u, u, u, u, u, .one (.sl 33 Y33 v31 0), .one (.int .i64 v32), .one (.int .i64 v33), u, u, u, u, .one (.sl 108 qa v34 0), .one (.int .i64 v35), .one (.int .i64 v36), u, u, u, u, u, u, u, u, u, u, u, u, u, u, u, u, u, u, u, u, u, u, u, u, u, u, u, u, u, u, u, u, u, u, u, u, u, u, u, u, u], [.box [.int .i64 v37, .sl 33 Y33 v38 0], .box [.int .i64 v39, .sl 108 qa v40 0], .box [.int .i64 v41, .nils], .box [.int .i64 v42, .own 5], .box [.int .i64 v43, .sl 108 qa v44 0], .row 33 Y33 v45 true true 0]⟩ = qgJ N v31 v32 v33 v34 v35 v37 v38 v39 v40 v41 v43 v44 k2 n v36 v42 v45 := by
  subst hc; intro n; induction n with
  | zero => intros; rfl
  | succ n ih =>
    intro v36 v42 v45
    rw [qM, q4r, qgJ]; unfold Tryz.f139
    simp (maxSteps := 10000000) -implicitDefEqProofs [qmE, qf7, qp9, qhV, qma, qhq, qrs, qhG, qmJ, qiO, qtz, qtD, ql8, qiU, q9, qon, qdK, qr2, qoE, qna, qqO, qsX, qnD, qq9, qpl, qsx, qrp, qmj, qpI, qrI, qnQ, qm6, qmT, qpa, qdl, qdL, hret, h2, ih]
noncomputable def qUE : Code := cut [true, true, false, true, true, true] (Tryz.f139.body.getD .skip)
theorem zcm {N : Nat} {Q : X → St → Option (qb [i50, i4])} {e : List LV} {h : List Blk} : qf tt qdm (qbt N) qUE Q ⟨e, h⟩ = qf tt qdm (qbt N) (cut [true, true, false, true, true, true] (Tryz.f139.body.getD .skip)) Q ⟨e, h⟩ := rfl
theorem q54 (N : Nat) (v2 : List (Val Y33)) (v3 : Int) (v5 : Int) (v6 : List (Val Y33)) (v7 : Int) (v8 : List (Val qa)) (v9 : Int) {k0 : Int → (List (Val Y33)) → Option (qb [i50, i4])} {Q : X → St → Option (qb [i50, i4])} {c : Code} (hc : c = qUE) (hret : ∀ st, Q .ret st = qE tt true [i50, i4] [.cell 4 50, .tmp 5] st) (h0 : ∀ (v50 : Int) (v51 : List (Val Y33)), Q (.exit 0) ⟨[u, u, u, u, .one (.ptr 0 0 0), u, .one (.ptr 1 0 0), u, u, u, u, u, u, u, u, u, u, u, u, u, u, u, u, u, u, u, u, u, u, u, u, u, u, u, u, u, u, u, u, u, u, u, u, u, u, u, u, u, u, u, u, u, u, u, u, u, u, u, u, u, u, u, u, u, u, u, u, u, u, u, u], [.box [.int .i64 v9, .nils], .box [.int .i64 v50, .own 2], .row 33 Y33 v51 true true 0]⟩ = k0 v50 v51) : ∀ (n : Nat) (v4 : Int) (v10 : Int) (v11 : List (Val Y33)), qF (qf tt qdm (qbt N) c) false qqR Q n ⟨[u, u, .one (.ptr 0 0 0), .one (.ptr 1 0 0), .one (.ptr 2 0 0), u, .one (.ptr 3 0 0), u, u, u, u, u, u, u, u, u, u, u, u, u, .one (.sl 33 Y33 v2 0), .one (.int .i64 v3), .one (.int .i64 v4), u, u, u, u, u, u, u, u, u, u, u, u, u, u, u, u, u, u, u, u, u, u, u, u, u, u, u, u, u, u, u, u, u, u, u, u, u, u, u, u, u, u, u, u, u, u, u, u], [.box [.int .i64 v5, .sl 33 Y33 v6 0], .box [.int .i64 v7, .sl 108 qa v8 0], .box [.int .i64 v9, .nils], .box [.int .i64 v10, .own 4], .row 33 Y33 v11 true true 0]⟩ = qgd N v2 v3 v5 v6 v7 v8 v9 k0 n v4 v10 v11 := by
  subst hc; intro n; induction n with
  | zero => intros; rfl
  | succ n ih =>
    intro v4 v10 v11
    rw [qM, zcm]; unfold Tryz.f139
    simp (maxSteps := 10000000) -implicitDefEqProofs [qmE, qf7, qp9, qhV, qma, qhq, qrs, qhG, qmJ, qiO, qtz, qtD, ql8, qiU, q9, qon, qdK, qr2, qoE, qna, qqO, qsX, qnD, qq9, qpl, qsx, qrp, qmj, qpI, qrI, qnQ, qm6, qmT, qpa, qdl, qdL, hret, h0, ih]
    rewrite [q92 (k2 := (fun (v48 : Int) (v49 : List (Val Y33)) => qgd N v2 v3 v5 v6 v7 v8 v9 k0 n (IntKind.i64.wrap (v4 + (1 : Int))) v48 v49)) N _ _ _ _ _ _ _ _ _ _ _ _ ?_ ?_ ?_]
    · rewrite [qgd]; first | rfl | simp (maxSteps := 10000000) -implicitDefEqProofs [ih]
    · rfl
    · intro; simp only [qK, qJ, qL, qC, hret]
    · intro v48 v49; simp (maxSteps := 10000000) -implicitDefEqProofs [qmE, qf7, qp9, qhV, qma, qhq, qrs, qhG, qmJ, qiO, qtz, qtD, ql8, qiU, q9, qon, qdK, qr2, qoE, qna, qqO, qsX, qnD, qq9, qpl, qsx, qrp, qmj, qpI, qrI, qnQ, qm6, qmT, qpa, qdl, qdL, hret, h0, ih]
theorem q1q (N : Nat) (v0 : Val Y50) (v1 : Val Y33) : qf tt qdm (qbt N) (Tryz.f139.body.getD .skip) (qm tt true [i50, i4] [.cell 4 50, .tmp 5]) (qq [i50, i33] 71 (v0, v1, ())) = qyK N v0 v1 := by
  unfold Tryz.f139
  simp (maxSteps := 10000000) -implicitDefEqProofs [qmE, qf7, qp9, qhV, qma, qhq, qrs, qhG, qmJ, qiO, qtz, qtD, ql8, qiU, q9, qon, qdK, qr2, qoE, qna, qqO, qsX, qnD, qq9, qpl, qsx, qrp, qmj, qpI, qrI, qnQ, qm6, qmT, qpa, qdl, qdL]
  rewrite [q54 (k0 := (fun (v52 : Int) (v53 : List (Val Y33)) => some ((v52, v53), true, ()))) N _ _ _ _ _ _ _ ?_ ?_ ?_]
  · rewrite [qyK]; first | rfl | simp (maxSteps := 10000000) -implicitDefEqProofs []
  · rfl
  · intro; simp only [qK, qJ, qL, qC]
  · intro v52 v53; simp (maxSteps := 10000000) -implicitDefEqProofs [qmE, qf7, qp9, qhV, qma, qhq, qrs, qhG, qmJ, qiO, qtz, qtD, ql8, qiU, q9, qon, qdK, qr2, qoE, qna, qqO, qsX, qnD, qq9, qpl, qsx, qrp, qmj, qpI, qrI, qnQ, qm6, qmT, qpa, qdl, qdL]
def qcB (r : Val Y50) (c : Val Y33) : Val Y50 × Bool := bif (qW (qr c.1 c.2)).2 then qa2 r (qW (qr c.1 c.2)).1 else qaR
def qvz (r : Val Y50) (c : Val Y33) : Prop := qV r = true ∧ qz c = true ∧ (c.1 : Int) = (r.1 : Int)
def qkA : G := { ps := [i50, i33], rs := [i50, i4], dp := false, pre := fun x => qvz x.1 x.2.1, fn := fun x => ((qcB x.1 x.2.1).1, (qcB x.1 x.2.1).2, ()) }
noncomputable def qfQ (N : Nat) (v23 : Int) (v25 : Int) (v26 : List (Val Y33)) (v27 : Int) (v28 : Int) (v31 : List (Val qa)) (k2 : Int → (List (Val Y33)) → Option (qb [i50, i4])) : Nat → Int → Int → (List (Val Y33)) → Option (qb [i50, i4])
  | 0, _, _, _ => none
  | n + 1, v24, v29, v30 => bif (decide (v24 < (v31.length : Int))) then (chk (0 ≤ v24 ∧ v24 < (v31.length : Int)) (chk (v24.toNat < v31.length) (chk (qky (v31.getD v24.toNat (qc qa))) (chk (0 ≤ (0 : Int) ∧ (0 : Int) ≤ v24 ∧ v24 ≤ (v31.length : Int)) (chk (([] : List (Val qa)).length + ((v31.take v24.toNat).drop (0 : Int).toNat).length ≤ 1048576) (chk ((([] : List (Val qa)) ++ ((v31.take v24.toNat).drop (0 : Int).toNat)).length + ([((((qh (v31.getD v24.toNat (qc qa))).1).1 : List (Val (.int .i64))), ((((qh (v31.getD v24.toNat (qc qa))).1).2).1 : Int), ((((qh (v31.getD v24.toNat (qc qa))).1).2).2 : Bool))] : List (Val qa)).length ≤ 1048576) (chk (0 ≤ v23 ∧ v23 < (v26.length : Int)) (chk (qlu (v26.getD v23.toNat (qc Y33)) (v25, ((([] : List (Val qa)) ++ ((v31.take v24.toNat).drop (0 : Int).toNat)) ++ ([((((qh (v31.getD v24.toNat (qc qa))).1).1 : List (Val (.int .i64))), ((((qh (v31.getD v24.toNat (qc qa))).1).2).1 : Int), ((((qh (v31.getD v24.toNat (qc qa))).1).2).2 : Bool))] : List (Val qa))))) (bif (!((qO (v26.getD v23.toNat (qc Y33)) (v25, ((([] : List (Val qa)) ++ ((v31.take v24.toNat).drop (0 : Int).toNat)) ++ ([((((qh (v31.getD v24.toNat (qc qa))).1).1 : List (Val (.int .i64))), ((((qh (v31.getD v24.toNat (qc qa))).1).2).1 : Int), ((((qh (v31.getD v24.toNat (qc qa))).1).2).2 : Bool))] : List (Val qa))))).2 : Bool)) then (some (((0 : Int), ([] : List (Val Y33))), false, ())) else (chk (qkm (v29, v30) ((qO (v26.getD v23.toNat (qc Y33)) (v25, ((([] : List (Val qa)) ++ ((v31.take v24.toNat).drop (0 : Int).toNat)) ++ ([((((qh (v31.getD v24.toNat (qc qa))).1).1 : List (Val (.int .i64))), ((((qh (v31.getD v24.toNat (qc qa))).1).2).1 : Int), ((((qh (v31.getD v24.toNat (qc qa))).1).2).2 : Bool))] : List (Val qa))))).1)) (bif (!((qa8 (v29, v30) ((qO (v26.getD v23.toNat (qc Y33)) (v25, ((([] : List (Val qa)) ++ ((v31.take v24.toNat).drop (0 : Int).toNat)) ++ ([((((qh (v31.getD v24.toNat (qc qa))).1).1 : List (Val (.int .i64))), ((((qh (v31.getD v24.toNat (qc qa))).1).2).1 : Int), ((((qh (v31.getD v24.toNat (qc qa))).1).2).2 : Bool))] : List (Val qa))))).1)).2 : Bool)) then (some (((0 : Int), ([] : List (Val Y33))), false, ())) else (qfQ N v23 v25 v26 v27 v28 v31 k2 n (IntKind.i64.wrap (v24 + (1 : Int))) (((qa8 (v29, v30) ((qO (v26.getD v23.toNat (qc Y33)) (v25, ((([] : List (Val qa)) ++ ((v31.take v24.toNat).drop (0 : Int).toNat)) ++ ([((((qh (v31.getD v24.toNat (qc qa))).1).1 : List (Val (.int .i64))), ((((qh (v31.getD v24.toNat (qc qa))).1).2).1 : Int), ((((qh (v31.getD v24.toNat (qc qa))).1).2).2 : Bool))] : List (Val qa))))).1)).1).1 : Int) (((qa8 (v29, v30) ((qO (v26.getD v23.toNat (qc Y33)) (v25, ((([] : List (Val qa)) ++ ((v31.take v24.toNat).drop (0 : Int).toNat)) ++ ([((((qh (v31.getD v24.toNat (qc qa))).1).1 : List (Val (.int .i64))), ((((qh (v31.getD v24.toNat (qc qa))).1).2).1 : Int), ((((qh (v31.getD v24.toNat (qc qa))).1).2).2 : Bool))] : List (Val qa))))).1)).1).2 : List (Val Y33)))))))))))))) else (k2 v29 v30)
noncomputable def qgg (N : Nat) (v3 : Int) (v4 : List (Val Y33)) (v5 : Int) (v6 : Int) (v9 : List (Val qa)) (k0 : Int → (List (Val Y33)) → Option (qb [i50, i4])) : Nat → Int → Int → (List (Val Y33)) → Option (qb [i50, i4])
  | 0, _, _, _ => none
  | n + 1, v2, v7, v8 => bif (decide (v2 < (v4.length : Int))) then (qfQ N v2 v3 v4 v5 v6 v9 (fun (v34 : Int) (v35 : List (Val Y33)) => qgg N v3 v4 v5 v6 v9 k0 n (IntKind.i64.wrap (v2 + (1 : Int))) v34 v35) N (0 : Int) v7 v8) else (k0 v7 v8)
noncomputable def quw (N : Nat) (v0 : Val Y50) (v1 : Val Y33) : Option (qb [i50, i4]) := chk (qaX (v1.1 : Int) (v1.2 : List (Val qa))) (chk (qkw (qr (v1.1 : Int) (v1.2 : List (Val qa)))) (bif (!((qW (qr (v1.1 : Int) (v1.2 : List (Val qa)))).2 : Bool)) then (some (((0 : Int), ([] : List (Val Y33))), false, ())) else (qgg N (v0.1 : Int) (v0.2 : List (Val Y33)) (0 : Int) (((qW (qr (v1.1 : Int) (v1.2 : List (Val qa)))).1).1 : Int) (((qW (qr (v1.1 : Int) (v1.2 : List (Val qa)))).1).2 : List (Val qa)) (fun (v38 : Int) (v39 : List (Val Y33)) => some ((v38, v39), true, ())) N (0 : Int) (v0.1 : Int) ([] : List (Val Y33)))))
def qcG : Gam := [(143, qcq), (150, qaq), (178, qdE), (217, qdI), (218, qdC)]
theorem qsc : Gam.get qcG 143 = some qcq := rfl
theorem qns : Gam.get qcG 150 = some qaq := rfl
theorem qmK : Gam.get qcG 178 = some qdE := rfl
theorem qre : Gam.get qcG 217 = some qdI := rfl
theorem qmC : Gam.get qcG 218 = some qdC := rfl
def qtq : Nm := ⟨[false, false, true, false, true, false, true, false, true, true, true], [.nsb 8 1 33 Y33, .frb 6 1 108 qa], false⟩
theorem qrJ : qtq.zero = false := rfl
theorem qrV : qtq.fix = [.nsb 8 1 33 Y33, .frb 6 1 108 qa] := rfl
theorem qnj : qtq.keep = [false, false, true, false, true, false, true, false, true, true, true] := rfl
def qs4 : Nm := ⟨[false, false, true, false, true, false, true, false, true, true], [.nsb 8 1 33 Y33, .frb 6 1 108 qa], false⟩
theorem qqs : qs4.zero = false := rfl
theorem qn1 : qs4.fix = [.nsb 8 1 33 Y33, .frb 6 1 108 qa] := rfl
theorem qo3 : qs4.keep = [false, false, true, false, true, false, true, false, true, true] := rfl
def qtZ : Nm := ⟨[false, false, false, false, true, false, false, false, true], [], false⟩
theorem qto : qtZ.zero = false := rfl
theorem qqP : qtZ.fix = [] := rfl
theorem qsy : qtZ.keep = [false, false, false, false, true, false, false, false, true] := rfl
def qt1 : Nm := ⟨[false, false, true, false, true, false, true, false, true, true], [], false⟩
theorem qrX : qt1.zero = false := rfl
theorem qqu : qt1.fix = [] := rfl
theorem qry : qt1.keep = [false, false, true, false, true, false, true, false, true, true] := rfl
def qxn : Nm := ⟨[false, false, true, false, true, false, true, false, true, true, true, false, false, true], [], false⟩
theorem qom : qxn.zero = false := rfl
theorem qrE : qxn.fix = [] := rfl
theorem qoX : qxn.keep = [false, false, true, false, true, false, true, false, true, true, true, false, false, true] := rfl
def qt9 : Nm := ⟨[false, false, true, false, true, false, true, false, true, true, true, false, false, false, true, true], [], false⟩
theorem qpP : qt9.zero = false := rfl
theorem qn8 : qt9.fix = [] := rfl
theorem qtO : qt9.keep = [false, false, true, false, true, false, true, false, true, true, true, false, false, false, true, true] := rfl
def qgy : Nat → Tree := fun i => if i = 12 then .first 5 (.keep 0 (.keep 1 (.keep 3 (.keep 4 (.keep 8 (.alt 2 (.alt 6 (.alt 7 (.alt 9 (.alt 10 (.first 11 (.alt 12 (.alt 13 .done .stop) .stop)) (.alt 12 (.alt 10 (.quiet 11 (.alt 13 .done .stop)) .stop) .stop)) (.alt 12 (.alt 9 (.alt 10 (.quiet 11 (.alt 13 .done .stop)) .stop) .stop) .stop)) (.alt 9 (.alt 7 (.alt 10 (.first 11 (.alt 12 (.alt 13 .done .stop) .stop)) (.alt 12 (.alt 10 (.quiet 11 (.alt 13 .done .stop)) .stop) .stop)) (.alt 12 (.alt 7 (.alt 10 (.quiet 11 (.alt 13 .done .stop)) .stop) .stop) .stop)) (.alt 12 (.alt 7 (.alt 9 (.alt 10 (.quiet 11 (.alt 13 .done .stop)) .stop) .stop) (.alt 9 (.alt 7 (.alt 10 (.quiet 11 (.alt 13 .done .stop)) .stop) .stop) .stop)) .stop))) (.alt 9 (.alt 6 (.alt 7 (.alt 10 (.first 11 (.alt 12 (.alt 13 .done .stop) .stop)) (.alt 12 (.alt 10 (.quiet 11 (.alt 13 .done .stop)) .stop) .stop)) (.alt 12 (.alt 7 (.alt 10 (.quiet 11 (.alt 13 .done .stop)) .stop) .stop) .stop)) (.alt 12 (.alt 6 (.alt 7 (.alt 10 (.quiet 11 (.alt 13 .done .stop)) .stop) .stop) .stop) .stop)) (.alt 12 (.alt 6 (.alt 7 (.alt 9 (.alt 10 (.quiet 11 (.alt 13 .done .stop)) .stop) .stop) (.alt 9 (.alt 7 (.alt 10 (.quiet 11 (.alt 13 .done .stop)) .stop) .stop) .stop)) (.alt 9 (.alt 6 (.alt 7 (.alt 10 (.quiet 11 (.alt 13 .done .stop)) .stop) .stop) .stop) .stop)) .stop))) (.alt 6 (.alt 2 (.alt 7 (.alt 9 (.alt 10 (.first 11 (.alt 12 (.alt 13 .done .stop) .stop)) (.alt 12 (.alt 10 (.quiet 11 (.alt 13 .done .stop)) .stop) .stop)) (.alt 12 (.alt 9 (.alt 10 (.quiet 11 (.alt 13 .done .stop)) .stop) .stop) .stop)) (.alt 9 (.alt 7 (.alt 10 (.first 11 (.alt 12 (.alt 13 .done .stop) .stop)) (.alt 12 (.alt 10 (.quiet 11 (.alt 13 .done .stop)) .stop) .stop)) (.alt 12 (.alt 7 (.alt 10 (.quiet 11 (.alt 13 .done .stop)) .stop) .stop) .stop)) (.alt 12 (.alt 7 (.alt 9 (.alt 10 (.quiet 11 (.alt 13 .done .stop)) .stop) .stop) (.alt 9 (.alt 7 (.alt 10 (.quiet 11 (.alt 13 .done .stop)) .stop) .stop) .stop)) .stop))) (.alt 9 (.alt 2 (.alt 7 (.alt 10 (.first 11 (.alt 12 (.alt 13 .done .stop) .stop)) (.alt 12 (.alt 10 (.quiet 11 (.alt 13 .done .stop)) .stop) .stop)) (.alt 12 (.alt 7 (.alt 10 (.quiet 11 (.alt 13 .done .stop)) .stop) .stop) .stop)) (.alt 12 (.alt 2 (.alt 7 (.alt 10 (.quiet 11 (.alt 13 .done .stop)) .stop) .stop) .stop) .stop)) (.alt 12 (.alt 2 (.alt 7 (.alt 9 (.alt 10 (.quiet 11 (.alt 13 .done .stop)) .stop) .stop) (.alt 9 (.alt 7 (.alt 10 (.quiet 11 (.alt 13 .done .stop)) .stop) .stop) .stop)) (.alt 9 (.alt 2 (.alt 7 (.alt 10 (.quiet 11 (.alt 13 .done .stop)) .stop) .stop) .stop) .stop)) .stop))) (.alt 9 (.alt 2 (.alt 6 (.alt 7 (.alt 10 (.first 11 (.alt 12 (.alt 13 .done .stop) .stop)) (.alt 12 (.alt 10 (.quiet 11 (.alt 13 .done .stop)) .stop) .stop)) (.alt 12 (.alt 7 (.alt 10 (.quiet 11 (.alt 13 .done .stop)) .stop) .stop) .stop)) (.alt 12 (.alt 6 (.alt 7 (.alt 10 (.quiet 11 (.alt 13 .done .stop)) .stop) .stop) .stop) .stop)) (.alt 6 (.alt 2 (.alt 7 (.alt 10 (.first 11 (.alt 12 (.alt 13 .done .stop) .stop)) (.alt 12 (.alt 10 (.quiet 11 (.alt 13 .done .stop)) .stop) .stop)) (.alt 12 (.alt 7 (.alt 10 (.quiet 11 (.alt 13 .done .stop)) .stop) .stop) .stop)) (.alt 12 (.alt 2 (.alt 7 (.alt 10 (.quiet 11 (.alt 13 .done .stop)) .stop) .stop) .stop) .stop)) (.alt 12 (.alt 2 (.alt 6 (.alt 7 (.alt 10 (.quiet 11 (.alt 13 .done .stop)) .stop) .stop) .stop) (.alt 6 (.alt 2 (.alt 7 (.alt 10 (.quiet 11 (.alt 13 .done .stop)) .stop) .stop) .stop) .stop)) .stop))) (.alt 12 (.alt 2 (.alt 6 (.alt 7 (.alt 9 (.alt 10 (.quiet 11 (.alt 13 .done .stop)) .stop) .stop) (.alt 9 (.alt 7 (.alt 10 (.quiet 11 (.alt 13 .done .stop)) .stop) .stop) .stop)) (.alt 9 (.alt 6 (.alt 7 (.alt 10 (.quiet 11 (.alt 13 .done .stop)) .stop) .stop) .stop) .stop)) (.alt 6 (.alt 2 (.alt 7 (.alt 9 (.alt 10 (.quiet 11 (.alt 13 .done .stop)) .stop) .stop) (.alt 9 (.alt 7 (.alt 10 (.quiet 11 (.alt 13 .done .stop)) .stop) .stop) .stop)) (.alt 9 (.alt 2 (.alt 7 (.alt 10 (.quiet 11 (.alt 13 .done .stop)) .stop) .stop) .stop) .stop)) (.alt 9 (.alt 2 (.alt 6 (.alt 7 (.alt 10 (.quiet 11 (.alt 13 .done .stop)) .stop) .stop) .stop) (.alt 6 (.alt 2 (.alt 7 (.alt 10 (.quiet 11 (.alt 13 .done .stop)) .stop) .stop) .stop) .stop)) .stop))) .stop))))))))) else if i = 13 then .first 2 (.grow 0 (.grow 1 (.grow 3 (.grow 4 (.grow 5 (.alt 6 (.first 7 (.first 8 (.first 9 (.alt 10 (.alt 11 (.quiet 12 .done) .stop) .stop)))) (.alt 10 (.alt 6 (.quiet 7 (.quiet 8 (.first 9 (.alt 11 (.quiet 12 .done) .stop)))) .stop) .stop))))))) else .done
def qhQ : Nat → Nm := fun i => if i = 9 then qtq else if i = 6 then qs4 else ⟨[], [], false⟩
def qii : Nat → Option Jn := fun _ => none
def qip : Nat → Option Nm := fun i => if i = 0 then some qtZ else if i = 2 then some qt1 else none
def qh8 : Nat → Option Nm := fun i => if i = 12 then some qxn else if i = 13 then some qt9 else none
theorem q7r : qj qgy (Tryz.f137.body.getD .skip) = true := by kernel_rfl
def qbE (N : Nat) : Tab := { tr := qgy, lp := qhQ, ex := qip, rg := qh8, jn := qii, fuel := N }
theorem qsL (N : Nat) : (qbE N).pins = false := rfl
theorem qZK (N : Nat) : qk Tryz.prog (qbE N) := qp fun _ => rfl
theorem qoI (N : Nat) (i : Nat) : (qbE N).tr i = qgy i := rfl
theorem qtJ (N : Nat) (i : Nat) : (qbE N).lp i = qhQ i := rfl
theorem qog (N : Nat) (i : Nat) : (qbE N).ex i = qip i := rfl
theorem qmc (N : Nat) (i : Nat) : (qbE N).rg i = qh8 i := rfl
theorem qnp (N : Nat) (i : Nat) : (qbE N).jn i = qii i := rfl
theorem qnM (N : Nat) : (qbE N).fuel = N := rfl
noncomputable def qSp : Code := cut [true, true, true, true, false, true, true, true, true, false, true, true, true, true] (Tryz.f137.body.getD .skip)
theorem zfx {N : Nat} {Q : X → St → Option (qb [i50, i4])} {e : List LV} {h : List Blk} : qf tt qcG (qbE N) qSp Q ⟨e, h⟩ = qf tt qcG (qbE N) (cut [true, true, true, true, false, true, true, true, true, false, true, true, true, true] (Tryz.f137.body.getD .skip)) Q ⟨e, h⟩ := rfl
theorem qZE (N : Nat) (v23 : Int) (v25 : Int) (v26 : List (Val Y33)) (v27 : Int) (v28 : Int) (v31 : List (Val qa)) {k2 : Int → (List (Val Y33)) → Option (qb [i50, i4])} {Q : X → St → Option (qb [i50, i4])} {c : Code} (hc : c = qSp) (hret : ∀ st, Q .ret st = qE tt false [i50, i4] [.cell 4 50, .tmp 5] st) (h2 : ∀ (v32 : Int) (v33 : List (Val Y33)), Q (.exit 2) ⟨[u, u, .one (.ptr 0 0 0), u, .one (.ptr 1 0 0), u, .one (.ptr 2 0 0), u, .one (.ptr 3 0 0), .one (.int .i64 v23), u, u, u, u, u, u, u, u, u, u, u, u, u, u, u, u, u, u, u, u, u, u, u, u, u, u, u, u, u, u, u, u, u, u, u, u, u, u, u, u, u, u, u, u, u, u, u, u, u, u, u, u, u, u, u, u, u, u, u, u, u, u, u, u, u, u, u, u, u, u, u, u, u, u, u, u, u, u, u, u, u, u], [.box [.int .i64 v25, .sl 33 Y33 v26 5], .box [.int .i64 v27, .nils], .box [.int .i64 v28, .own 4], .box [.int .i64 v32, .sl 33 Y33 v33 5], .row 108 qa v31 true false 0]⟩ = k2 v32 v33) : ∀ (n : Nat) (v24 : Int) (v29 : Int) (v30 : List (Val Y33)), qF (qf tt qcG (qbE N) c) false qtq Q n ⟨[u, u, .one (.ptr 0 0 0), u, .one (.ptr 1 0 0), u, .one (.ptr 2 0 0), u, .one (.ptr 3 0 0), .one (.int .i64 v23), .one (.int .i64 v24), u, u, u, u, u, u, u, u, u, u, u, u, u, u, u, u, u, u, u, u, u, u, u, u, u, u, u, u, u, u, u, u, u, u, u, u, u, u, u, u, u, u, u, u, u, u, u, u, u, u, u, u, u, u, u, u, u, u, u, u, u, u, u, u, u, u, u, u, u, u, u, u, u, u, u, u, u, u, u, u, u], [.box [.int .i64 v25, .sl 33 Y33 v26 5], .box [.int .i64 v27, .nils], .box [.int .i64 v28, .own 4], .box [.int .i64 v29, .sl 33 Y33 v30 5], .row 108 qa v31 true false 0]⟩ = qfQ N v23 v25 v26 v27 v28 v31 k2 n v24 v29 v30 := by
  subst hc; intro n; induction n with
  | zero => intros; rfl
  | succ n ih =>
    intro v24 v29 v30
    rw [qM, zfx, qfQ]; unfold Tryz.f137
    simp (maxSteps := 10000000) -implicitDefEqProofs [qoI, qgy, qtJ, qhQ, qog, qip, qmc, qh8, qnp, qii, qnM, qsL, qrV, qnj, qrJ, qn1, qo3, qqs, qqP, qsy, qto, qqu, qry, qrX, qrE, qoX, qom, qn8, qtO, qpP, qsc, qns, qmK, qre, qmC, qcq, qaq, qdE, qdI, qdC, hret, h2, ih]
noncomputable def qSN : Code := cut [true, true, true, true, false, true, true, true] (Tryz.f137.body.getD .skip)
theorem qYS {N : Nat} {Q : X → St → Option (qb [i50, i4])} {e : List LV} {h : List Blk} : qf tt qcG (qbE N) qSN Q ⟨e, h⟩ = qf tt qcG (qbE N) (cut [true, true, true, true, false, true, true, true] (Tryz.f137.body.getD .skip)) Q ⟨e, h⟩ := rfl
theorem q6n (N : Nat) (v3 : Int) (v4 : List (Val Y33)) (v5 : Int) (v6 : Int) (v9 : List (Val qa)) {k0 : Int → (List (Val Y33)) → Option (qb [i50, i4])} {Q : X → St → Option (qb [i50, i4])} {c : Code} (hc : c = qSN) (hret : ∀ st, Q .ret st = qE tt false [i50, i4] [.cell 4 50, .tmp 5] st) (h0 : ∀ (v36 : Int) (v37 : List (Val Y33)), Q (.exit 0) ⟨[u, u, u, u, .one (.ptr 0 0 0), u, u, u, .one (.ptr 1 0 0), u, u, u, u, u, u, u, u, u, u, u, u, u, u, u, u, u, u, u, u, u, u, u, u, u, u, u, u, u, u, u, u, u, u, u, u, u, u, u, u, u, u, u, u, u, u, u, u, u, u, u, u, u, u, u, u, u, u, u, u, u, u, u, u, u, u, u, u, u, u, u, u, u, u, u, u, u, u, u, u, u, u, u], [.box [.int .i64 v5, .nils], .box [.int .i64 v36, .sl 33 Y33 v37 2]]⟩ = k0 v36 v37) : ∀ (n : Nat) (v2 : Int) (v7 : Int) (v8 : List (Val Y33)), qF (qf tt qcG (qbE N) c) false qs4 Q n ⟨[u, u, .one (.ptr 0 0 0), u, .one (.ptr 1 0 0), u, .one (.ptr 2 0 0), u, .one (.ptr 3 0 0), .one (.int .i64 v2), u, u, u, u, u, u, u, u, u, u, u, u, u, u, u, u, u, u, u, u, u, u, u, u, u, u, u, u, u, u, u, u, u, u, u, u, u, u, u, u, u, u, u, u, u, u, u, u, u, u, u, u, u, u, u, u, u, u, u, u, u, u, u, u, u, u, u, u, u, u, u, u, u, u, u, u, u, u, u, u, u, u], [.box [.int .i64 v3, .sl 33 Y33 v4 5], .box [.int .i64 v5, .nils], .box [.int .i64 v6, .own 4], .box [.int .i64 v7, .sl 33 Y33 v8 5], .row 108 qa v9 true false 0]⟩ = qgg N v3 v4 v5 v6 v9 k0 n v2 v7 v8 := by
  subst hc; intro n; induction n with
  | zero => intros; rfl
  | succ n ih =>
    intro v2 v7 v8
    rw [qM, qYS]; unfold Tryz.f137
    simp (maxSteps := 10000000) -implicitDefEqProofs [qoI, qgy, qtJ, qhQ, qog, qip, qmc, qh8, qnp, qii, qnM, qsL, qrV, qnj, qrJ, qn1, qo3, qqs, qqP, qsy, qto, qqu, qry, qrX, qrE, qoX, qom, qn8, qtO, qpP, qsc, qns, qmK, qre, qmC, qcq, qaq, qdE, qdI, qdC, hret, h0, ih]
    rewrite [qZE (k2 := (fun (v34 : Int) (v35 : List (Val Y33)) => qgg N v3 v4 v5 v6 v9 k0 n (IntKind.i64.wrap (v2 + (1 : Int))) v34 v35)) N _ _ _ _ _ _ ?_ ?_ ?_]
    · rewrite [qgg]; first | rfl | simp (maxSteps := 10000000) -implicitDefEqProofs [ih]
    · rfl
    · intro; simp only [qK, qJ, qL, qC, hret]
    · intro v34 v35; simp (maxSteps := 10000000) -implicitDefEqProofs [qoI, qgy, qtJ, qhQ, qog, qip, qmc, qh8, qnp, qii, qnM, qsL, qrV, qnj, qrJ, qn1, qo3, qqs, qqP, qsy, qto, qqu, qry, qrX, qrE, qoX, qom, qn8, qtO, qpP, qsc, qns, qmK, qre, qmC, qcq, qaq, qdE, qdI, qdC, hret, h0, ih]
theorem q3i (N : Nat) (v0 : Val Y50) (v1 : Val Y33) : qf tt qcG (qbE N) (Tryz.f137.body.getD .skip) (qm tt false [i50, i4] [.cell 4 50, .tmp 5]) (qq [i50, i33] 92 (v0, v1, ())) = quw N v0 v1 := by
  unfold Tryz.f137
  simp (maxSteps := 10000000) -implicitDefEqProofs [qoI, qgy, qtJ, qhQ, qog, qip, qmc, qh8, qnp, qii, qnM, qsL, qrV, qnj, qrJ, qn1, qo3, qqs, qqP, qsy, qto, qqu, qry, qrX, qrE, qoX, qom, qn8, qtO, qpP, qsc, qns, qmK, qre, qmC, qcq, qaq, qdE, qdI, qdC]
  rewrite [q6n (k0 := (fun (v38 : Int) (v39 : List (Val Y33)) => some ((v38, v39), true, ()))) N _ _ _ _ _ ?_ ?_ ?_]
  · rewrite [quw]; first | rfl | simp (maxSteps := 10000000) -implicitDefEqProofs []
  · rfl
  · intro; simp only [qK, qJ, qL, qC]
  · intro v38 v39; simp (maxSteps := 10000000) -implicitDefEqProofs [qoI, qgy, qtJ, qhQ, qog, qip, qmc, qh8, qnp, qii, qnM, qsL, qrV, qnj, qrJ, qn1, qo3, qqs, qqP, qsy, qto, qqu, qry, qrX, qrE, qoX, qom, qn8, qtO, qpP, qsc, qns, qmK, qre, qmC, qcq, qaq, qdE, qdI, qdC]
end Go.T
