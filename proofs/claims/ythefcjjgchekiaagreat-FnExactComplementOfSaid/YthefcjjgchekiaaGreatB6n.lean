/- Negated atoms. -/
import Derived.Test.YthefcjjgchekiaaGreatB1
set_option linter.unusedSimpArgs false
set_option linter.unusedVariables false
namespace Go.T
open Go Go.Proofs
set_option maxHeartbeats 4000000
set_option maxRecDepth 100000
def qh (a : Val qa) : Val qa × Bool := bif qD a then ((List.map (α := Int) (fun x => -x) a.1, (-(a.2.1 : Int), !a.2.2)), true) else (([], ((0 : Int), false)), false)
def qky (a : Val qa) : Prop := qba a
def qdL : G := { ps := [qi], rs := [qi, i4], dp := true, pre := fun _ => True, fn := fun x => ((qh x.1).1, (qh x.1).2, ()) }
def qdC : G := { ps := [qi], rs := [qi, i4], dp := true, pre := fun x => qky x.1, fn := fun x => ((qh x.1).1, (qh x.1).2, ()) }
noncomputable def qfY (N : Nat) (v1 : List (Val (.int .i64))) (v2 : Int) (v4 : Int) (v5 : Bool) (v6 : Int) (v7 : Bool) (k0 : (List (Val (.int .i64))) → Option (qb [qi, i4])) : Nat → Int → (List (Val (.int .i64))) → Option (qb [qi, i4])
  | 0, _, _ => none
  | n + 1, v3, v8 => bif (decide (v3 < v2)) then (chk (0 ≤ v3 ∧ v3 < (v1.length : Int)) (chk (0 ≤ v3 ∧ v3 < (v8.length : Int)) (chk (v3.toNat < v8.length) (qfY N v1 v2 v4 v5 v6 v7 k0 n (IntKind.i64.wrap (v3 + (1 : Int))) (v8.set v3.toNat (IntKind.i64.wrap (0 - ((v1.getD v3.toNat (qc (.int .i64))) : Int)))))))) else (k0 v8)
noncomputable def quP (N : Nat) (v0 : Val qa) : Option (qb [qi, i4]) := bif (!((qD v0) : Bool)) then (some ((([] : List (Val (.int .i64))), (0 : Int), false), false, ())) else (chk (0 ≤ ((v0.1 : List (Val (.int .i64))).length : Int) ∧ ((v0.1 : List (Val (.int .i64))).length : Int) ≤ ((v0.1 : List (Val (.int .i64))).length : Int) ∧ ((v0.1 : List (Val (.int .i64))).length : Int) ≤ 1048576) (qfY N (v0.1 : List (Val (.int .i64))) ((v0.1 : List (Val (.int .i64))).length : Int) (0 : Int) false (IntKind.i64.wrap (0 - (v0.2.1 : Int))) (!(v0.2.2 : Bool)) (fun (v10 : List (Val (.int .i64))) => some ((v10, (IntKind.i64.wrap (0 - (v0.2.1 : Int))), (!(v0.2.2 : Bool))), true, ())) N (0 : Int) (List.replicate ((v0.1 : List (Val (.int .i64))).length : Int).toNat (qc (.int .i64)))))
def qkG : Gam := [(279, qaD)]
theorem qCv : Gam.get qkG 279 = some qaD := rfl
def qoA : Nm := ⟨[false, false, true, false, true, false, false, false, false, false, false, false, false, false, false, false, false, false, false, false, false, false, false, true, true, true], [], false⟩
theorem qEW : qoA.zero = false := rfl
theorem qA4 : qoA.fix = [] := rfl
theorem qMF : qoA.keep = [false, false, true, false, true, false, false, false, false, false, false, false, false, false, false, false, false, false, false, false, false, false, false, true, true, true] := rfl
def qyQ : Nm := ⟨[false, false, true, false, true], [], false⟩
theorem qPW : qyQ.zero = false := rfl
theorem qDn : qyQ.fix = [] := rfl
theorem qAR : qyQ.keep = [false, false, true, false, true] := rfl
def qvK : Nm := ⟨[false, true, true, false, true], [], false⟩
theorem qLy : qvK.zero = false := rfl
theorem qCg : qvK.fix = [] := rfl
theorem qFo : qvK.keep = [false, true, true, false, true] := rfl
def qj8 : Nat → Tree := fun i => if i = 3 then .grow 0 (.grow 1 (.grow 2 (.grow 4 (.grow 5 (.first 6 (.grow 7 (.grow 8 (.first 9 (.alt 3 (.first 10 (.alt 11 (.alt 12 .done .stop) .stop)) (.alt 11 (.alt 3 (.quiet 10 (.alt 12 .done .stop)) .stop) .stop)))))))))) else .done
def qps : Nat → Nm := fun i => if i = 5 then qoA else ⟨[], [], false⟩
def qtk : Nat → Option Jn := fun _ => none
def qqd : Nat → Option Nm := fun i => if i = 0 then some qyQ else none
def qrn : Nat → Option Nm := fun i => if i = 3 then some qvK else none
theorem zcE : qj qj8 (Tryz.f221.body.getD .skip) = true := by kernel_rfl
def qcR (N : Nat) : Tab := { tr := qj8, lp := qps, ex := qqd, rg := qrn, jn := qtk, fuel := N }
theorem qP9 (N : Nat) : (qcR N).pins = false := rfl
theorem zbe (N : Nat) : qk Tryz.prog (qcR N) := qp fun _ => rfl
theorem qC5 (N : Nat) (i : Nat) : (qcR N).tr i = qj8 i := rfl
theorem qAs (N : Nat) (i : Nat) : (qcR N).lp i = qps i := rfl
theorem qHU (N : Nat) (i : Nat) : (qcR N).ex i = qqd i := rfl
theorem qCX (N : Nat) (i : Nat) : (qcR N).rg i = qrn i := rfl
theorem qLf (N : Nat) (i : Nat) : (qcR N).jn i = qtk i := rfl
theorem qNK (N : Nat) : (qcR N).fuel = N := rfl
noncomputable def qRT : Code := cut [true, true, true, false, true, true, true] (Tryz.f221.body.getD .skip)
theorem q2N {N : Nat} {Q : X → St → Option (qb [qi, i4])} {e : List LV} {h : List Blk} : qf tt qkG (qcR N) qRT Q ⟨e, h⟩ = qf tt qkG (qcR N) (cut [true, true, true, false, true, true, true] (Tryz.f221.body.getD .skip)) Q ⟨e, h⟩ := rfl
theorem q94 (N : Nat) (v1 : List (Val (.int .i64))) (v2 : Int) (v4 : Int) (v5 : Bool) (v6 : Int) (v7 : Bool) {k0 : (List (Val (.int .i64))) → Option (qb [qi, i4])} {Q : X → St → Option (qb [qi, i4])} {c : Code} (hc : c = qRT) (hret : ∀ st, Q .ret st = qE tt true [qi, i4] [.cell 2 108, .tmp 3] st) (h0 : ∀ (v9 : List (Val (.int .i64))), Q (.exit 0) ⟨[u, u, .one (.ptr 0 0 0), u, .one (.ptr 1 0 0), u, u, u, u, u, u, u, u, u, u, u, u, u, u, u, u, u, u, u, u, u, u, u, u, u, u, u, u, u, u, u, u, u], [.box [.nils, .int .i64 v4, .bool v5], .box [.own 2, .int .i64 v6, .bool v7], .row 3 (.int .i64) v9 true true 0]⟩ = k0 v9) : ∀ (n : Nat) (v3 : Int) (v8 : List (Val (.int .i64))), qF (qf tt qkG (qcR N) c) false qoA Q n ⟨[u, u, .one (.ptr 0 0 0), u, .one (.ptr 1 0 0), u, u, u, u, u, u, u, u, u, u, u, u, u, u, u, u, u, u, .one (.sl 3 (.int .i64) v1 3), .one (.int .i64 v2), .one (.int .i64 v3), u, u, u, u, u, u, u, u, u, u, u, u], [.box [.nils, .int .i64 v4, .bool v5], .box [.own 2, .int .i64 v6, .bool v7], .row 3 (.int .i64) v8 true true 0]⟩ = qfY N v1 v2 v4 v5 v6 v7 k0 n v3 v8 := by
  subst hc; intro n; induction n with
  | zero => intros; rfl
  | succ n ih =>
    intro v3 v8
    rw [qM, q2N, qfY]; unfold Tryz.f221
    simp (maxSteps := 10000000) -implicitDefEqProofs [qC5, qj8, qAs, qps, qHU, qqd, qCX, qrn, qLf, qtk, qNK, qP9, qA4, qMF, qEW, qDn, qAR, qPW, qCg, qFo, qLy, qCv, qaD, hret, h0, ih]
theorem q1C (N : Nat) (v0 : Val qa) : qf tt qkG (qcR N) (Tryz.f221.body.getD .skip) (qm tt true [qi, i4] [.cell 2 108, .tmp 3]) (qq [qi] 38 (v0, ())) = quP N v0 := by
  unfold Tryz.f221
  simp (maxSteps := 10000000) -implicitDefEqProofs [qC5, qj8, qAs, qps, qHU, qqd, qCX, qrn, qLf, qtk, qNK, qP9, qA4, qMF, qEW, qDn, qAR, qPW, qCg, qFo, qLy, qCv, qaD]
  rewrite [q94 (k0 := (fun (v10 : List (Val (.int .i64))) => some ((v10, (IntKind.i64.wrap (0 - (v0.2.1 : Int))), (!(v0.2.2 : Bool))), true, ()))) N _ _ _ _ _ _ ?_ ?_ ?_]
  · rewrite [quP]; first | rfl | simp (maxSteps := 10000000) -implicitDefEqProofs []
  · rfl
  · intro; simp only [qK, qJ, qL, qC]
  · intro v10; simp (maxSteps := 10000000) -implicitDefEqProofs [qC5, qj8, qAs, qps, qHU, qqd, qCX, qrn, qLf, qtk, qNK, qP9, qA4, qMF, qEW, qDn, qAR, qPW, qCg, qFo, qLy, qCv, qaD]
noncomputable def qf2 (N : Nat) (v2 : List (Val (.int .i64))) (v3 : Int) (v4 : Bool) (v5 : Int) (v6 : Bool) (v7 : Int) (v8 : Bool) (k0 : (List (Val (.int .i64))) → Option (qb [qi, i4])) : Nat → Int → (List (Val (.int .i64))) → Option (qb [qi, i4])
  | 0, _, _ => none
  | n + 1, v1, v9 => bif (decide (v1 < (v2.length : Int))) then (chk (0 ≤ v1 ∧ v1 < (v2.length : Int)) (chk (v9.length + ([(IntKind.i64.wrap (0 - ((v2.getD v1.toNat (qc (.int .i64))) : Int)))] : List (Val (.int .i64))).length ≤ 1048576) (qf2 N v2 v3 v4 v5 v6 v7 v8 k0 n (IntKind.i64.wrap (v1 + (1 : Int))) (v9 ++ ([(IntKind.i64.wrap (0 - ((v2.getD v1.toNat (qc (.int .i64))) : Int)))] : List (Val (.int .i64))))))) else (k0 v9)
noncomputable def quM (N : Nat) (v0 : Val qa) : Option (qb [qi, i4]) := bif (!((qD v0) : Bool)) then (some ((([] : List (Val (.int .i64))), (0 : Int), false), false, ())) else (qf2 N (v0.1 : List (Val (.int .i64))) (v0.2.1 : Int) (v0.2.2 : Bool) (0 : Int) false (IntKind.i64.wrap (0 - (v0.2.1 : Int))) (!(v0.2.2 : Bool)) (fun (v11 : List (Val (.int .i64))) => some ((v11, (IntKind.i64.wrap (0 - (v0.2.1 : Int))), (!(v0.2.2 : Bool))), true, ())) N (0 : Int) ([] : List (Val (.int .i64))))
def qks : Gam := [(193, qaY)]
theorem qIr : Gam.get qks 193 = some qaY := rfl
def qrS : Nm := ⟨[false, true, true, false, true, true], [.box 4 0 3 (.int .i64)], false⟩
theorem qPM : qrS.zero = false := rfl
theorem qBp : qrS.fix = [.box 4 0 3 (.int .i64)] := rfl
theorem qJU : qrS.keep = [false, true, true, false, true, true] := rfl
def qyp : Nm := ⟨[false, false, true, false, true], [], false⟩
theorem qJo : qyp.zero = false := rfl
theorem qHy : qyp.fix = [] := rfl
theorem qGk : qyp.keep = [false, false, true, false, true] := rfl
def qzf : Nm := ⟨[false, true, true, false, true, true], [], false⟩
theorem qQo : qzf.zero = false := rfl
theorem qMA : qzf.fix = [] := rfl
theorem qMV : qzf.keep = [false, true, true, false, true, true] := rfl
def qlN : Nat → Tree := fun i => if i = 7 then .quiet 2 (.quiet 3 (.quiet 4 (.quiet 5 (.quiet 6 (.quiet 7 (.alt 0 (.alt 1 (.alt 8 (.alt 9 (.quiet 10 (.alt 11 .done .stop)) .stop) .stop) (.alt 8 (.quiet 1 (.alt 9 (.quiet 10 (.alt 11 .done .stop)) .stop)) .stop)) (.alt 8 (.quiet 0 (.quiet 1 (.alt 9 (.quiet 10 (.alt 11 .done .stop)) .stop))) .stop))))))) else .done
def qr4 : Nat → Nm := fun i => if i = 5 then qrS else ⟨[], [], false⟩
def qtm : Nat → Option Jn := fun _ => none
def qpM : Nat → Option Nm := fun i => if i = 0 then some qyp else none
def qtl : Nat → Option Nm := fun i => if i = 7 then some qzf else none
theorem q3v : qj qlN (Tryz.f218.body.getD .skip) = true := by kernel_rfl
def qc2 (N : Nat) : Tab := { tr := qlN, lp := qr4, ex := qpM, rg := qtl, jn := qtm, fuel := N }
theorem qBj (N : Nat) : (qc2 N).pins = false := rfl
theorem q7x (N : Nat) : qk Tryz.prog (qc2 N) := qp fun _ => rfl
theorem qJt (N : Nat) (i : Nat) : (qc2 N).tr i = qlN i := rfl
theorem qAL (N : Nat) (i : Nat) : (qc2 N).lp i = qr4 i := rfl
theorem qAK (N : Nat) (i : Nat) : (qc2 N).ex i = qpM i := rfl
theorem qK9 (N : Nat) (i : Nat) : (qc2 N).rg i = qtl i := rfl
theorem qN0 (N : Nat) (i : Nat) : (qc2 N).jn i = qtm i := rfl
theorem qMD (N : Nat) : (qc2 N).fuel = N := rfl
noncomputable def qUb : Code := cut [true, true, true, false, true, true, true] (Tryz.f218.body.getD .skip)
theorem q4p {N : Nat} {Q : X → St → Option (qb [qi, i4])} {e : List LV} {h : List Blk} : qf tt qks (qc2 N) qUb Q ⟨e, h⟩ = qf tt qks (qc2 N) (cut [true, true, true, false, true, true, true] (Tryz.f218.body.getD .skip)) Q ⟨e, h⟩ := rfl
theorem q4w (N : Nat) (v2 : List (Val (.int .i64))) (v3 : Int) (v4 : Bool) (v5 : Int) (v6 : Bool) (v7 : Int) (v8 : Bool) {k0 : (List (Val (.int .i64))) → Option (qb [qi, i4])} {Q : X → St → Option (qb [qi, i4])} {c : Code} (hc : c = qUb) (hret : ∀ st, Q .ret st = qE tt true [qi, i4] [.cell 2 108, .tmp 3] st) (h0 : ∀ (v10 : List (Val (.int .i64))), Q (.exit 0) ⟨[u, u, .one (.ptr 0 0 0), u, .one (.ptr 1 0 0), u, u, u, u, u, u, u, u, u, u, u, u, u, u, u, u, u, u, u, u, u, u, u, u, u, u, u, u, u, u, u], [.box [.nils, .int .i64 v5, .bool v6], .box [.own 2, .int .i64 v7, .bool v8], .row 3 (.int .i64) v10 true true 0]⟩ = k0 v10) : ∀ (n : Nat) (v1 : Int) (v9 : List (Val (.int .i64))), qF (qf tt qks (qc2 N) c) false qrS Q n ⟨[u, .one (.ptr 0 0 0), .one (.ptr 1 0 0), u, .one (.ptr 2 0 0), .one (.int .i64 v1), u, u, u, u, u, u, u, u, u, u, u, u, u, u, u, u, u, u, u, u, u, u, u, u, u, u, u, u, u, u], [.box [.sl 3 (.int .i64) v2 4, .int .i64 v3, .bool v4], .box [.nils, .int .i64 v5, .bool v6], .box [.own 3, .int .i64 v7, .bool v8], .row 3 (.int .i64) v9 true true 0]⟩ = qf2 N v2 v3 v4 v5 v6 v7 v8 k0 n v1 v9 := by
  subst hc; intro n; induction n with
  | zero => intros; rfl
  | succ n ih =>
    intro v1 v9
    rw [qM, q4p, qf2]; unfold Tryz.f218
    simp (maxSteps := 10000000) -implicitDefEqProofs [qJt, qlN, qAL, qr4, qAK, qpM, qK9, qtl, qN0, qtm, qMD, qBj, qBp, qJU, qPM, qHy, qGk, qJo, qMA, qMV, qQo, qIr, qaY, hret, h0, ih]
theorem q06 (N : Nat) (v0 : Val qa) : qf tt qks (qc2 N) (Tryz.f218.body.getD .skip) (qm tt true [qi, i4] [.cell 2 108, .tmp 3]) (qq [qi] 36 (v0, ())) = quM N v0 := by
  unfold Tryz.f218
  simp (maxSteps := 10000000) -implicitDefEqProofs [qJt, qlN, qAL, qr4, qAK, qpM, qK9, qtl, qN0, qtm, qMD, qBj, qBp, qJU, qPM, qHy, qGk, qJo, qMA, qMV, qQo, qIr, qaY]
  rewrite [q4w (k0 := (fun (v11 : List (Val (.int .i64))) => some ((v11, (IntKind.i64.wrap (0 - (v0.2.1 : Int))), (!(v0.2.2 : Bool))), true, ()))) N _ _ _ _ _ _ _ ?_ ?_ ?_]
  · rewrite [quM]; first | rfl | simp (maxSteps := 10000000) -implicitDefEqProofs []
  · rfl
  · intro; simp only [qK, qJ, qL, qC]
  · intro v11; simp (maxSteps := 10000000) -implicitDefEqProofs [qJt, qlN, qAL, qr4, qAK, qpM, qK9, qtl, qN0, qtm, qMD, qBj, qBp, qJU, qPM, qHy, qGk, qJo, qMA, qMV, qQo, qIr, qaY]
theorem qlX {x : Int} (h : inI x) : IntKind.i64.wrap (0 - x) = -x := by
  unfold inI at h
  rw [qaH (by omega) (by omega)]; omega
theorem qVp (N : Nat) (co : List (Val (.int .i64))) (c : Int) (s : Bool) (a : Int) (b : Bool) (c' : Int) (s' : Bool) (K : List (Val (.int .i64)) → Option (qb [qi, i4])) (hl : co.length ≤ 1048576) (hx : ∀ x ∈ co, inI x) (n : Nat) (hn : co.length < n) :
    qf2 N co c s a b c' s' K n 0 [] = K (List.map (α := Int) (fun x => -x) co) := by
  refine (qax (F := fun n i v => qf2 N co c s a b c' s' K n i v) (step := fun _ x (s : List (Val (.int .i64))) K => chk (s.length + [IntKind.i64.wrap (0 - x)].length ≤ 1048576) (K (s ++ [IntKind.i64.wrap (0 - x)]))) (k := K) hl (fun n i v hi => ?_) (fun n i v hi => ?_) n _ hn).trans ((qvE (f := fun x => IntKind.i64.wrap (0 - x)) (k := K) co 0 [] (by simpa using hl)).trans ?_)
  · rw [qf2, qn (by omega), qe (by omega), qG hi]
  · rw [qf2, ql (by omega)]
  · have e : List.map (fun x => IntKind.i64.wrap (0 - x)) co = List.map (α := Int) (fun x => -x) co := List.map_congr_left fun x hx' => qlX (hx x hx')
    rw [List.nil_append, e]
theorem zbr (a : Val qa) (h : qky a) : ∃ N, quM N a = some ((qh a).1, (qh a).2, ()) := ⟨List.length (α := Int) a.1 + 1, by
  rw [quM]
  unfold qh
  cases ha : qD a with
  | false => rfl
  | true =>
    have hi := qa5 ha
    have hx := qjC ha
    have h4 : List.length (α := Int) a.1 ≤ 4 := hi.1
    have t := qVp (List.length (α := Int) a.1 + 1) a.1 a.2.1 a.2.2 0 false (IntKind.i64.wrap (0 - (a.2.1 : Int))) (!(a.2.2 : Bool)) (fun v => some ((v, (IntKind.i64.wrap (0 - (a.2.1 : Int))), (!(a.2.2 : Bool))), true, ())) (by omega) hx _ (Nat.lt_succ_self _)
    simp only [Bool.not_true, cond_false, cond_true]
    rw [t, qlX hi.2.1]⟩
theorem qS2 : Sound Tryz.prog 218 qdC := qt (tt := tt) (Γ := qks) hT (qg qyJ qo) hm (fn := Tryz.f218) Tryz.func218 (c := Tryz.f218.body.getD .skip) (by kernel_rfl) (by kernel_rfl) fun x hx => by
  obtain ⟨N, h⟩ := zbr x.1 hx
  exact ⟨qc2 N, q3v, qw _, q7x N, (q06 N x.1).trans h⟩
theorem q1o (N : Nat) (co : List (Val (.int .i64))) (a : Int) (b : Bool) (c : Int) (s : Bool) (K : List (Val (.int .i64)) → Option (qb [qi, i4])) (hl : co.length ≤ 1048576) (hx : ∀ x ∈ co, inI x) (n : Nat) (hn : co.length < n) :
    qfY N co co.length a b c s K n 0 (List.replicate co.length (qc (.int .i64))) = K (List.map (α := Int) (fun x => -x) co) := by
  have := qlR (xs := List.map (α := Int) (fun x => -x) co) (F := fun n i s' => qfY N co co.length a b c s K n i s') (k := K) (qc (.int .i64)) (by simpa using hl) (fun n i s' hi hs => ?_) (fun n i s' hi => ?_) n (by simpa using hn)
  · simpa using this
  · have hi : i < co.length := by simpa using hi
    have hs : s'.length = co.length := by simpa using hs
    rw [qfY, qn (by omega), qe (by omega), qe (by omega), qe (by simp; omega), qG hi, qlX (hx _ (List.getElem_mem hi))]
    simp
  · have hi : co.length ≤ i := by simpa using hi
    rw [qfY, ql (by omega)]
theorem zbD (a : Val qa) : ∃ N, quP N a = some ((qh a).1, (qh a).2, ()) := ⟨List.length (α := Int) a.1 + 1, by
  rw [quP]
  unfold qh
  cases ha : qD a with
  | false => rfl
  | true =>
    have hi := qa5 ha
    have hx := qjC ha
    have h4 : List.length (α := Int) a.1 ≤ 4 := hi.1
    have t := q1o (List.length (α := Int) a.1 + 1) a.1 0 false (IntKind.i64.wrap (0 - (a.2.1 : Int))) (!(a.2.2 : Bool)) (fun v => some ((v, (IntKind.i64.wrap (0 - (a.2.1 : Int))), (!(a.2.2 : Bool))), true, ())) (by omega) hx _ (Nat.lt_succ_self _)
    simp only [Bool.not_true, cond_false, cond_true]
    rw [qe (qg0 (by omega)), Int.toNat_natCast, t, qlX hi.2.1]⟩
theorem qSC : Sound Tryz.prog 221 qdL := qt (tt := tt) (Γ := qkG) hT (qg qnP qo) hm (fn := Tryz.f221) Tryz.func221 (c := Tryz.f221.body.getD .skip) (by kernel_rfl) (by kernel_rfl) fun x hx => by
  obtain ⟨N, h⟩ := zbD x.1
  exact ⟨qcR N, zcE, qw _, zbe N, (q1C N x.1).trans h⟩
end Go.T
