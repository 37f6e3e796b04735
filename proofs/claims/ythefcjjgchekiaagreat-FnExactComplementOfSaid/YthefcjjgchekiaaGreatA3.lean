/- Cells: whether they are valid. -/
import Derived.Test.YthefcjjgchekiaaGreatA2
set_option linter.unusedSimpArgs false
set_option linter.unusedVariables false
namespace Go.T
open Go Go.Proofs
set_option maxHeartbeats 4000000
set_option maxRecDepth 100000
def qz (c : Val Y33) : Bool := decide (0 ≤ (c.1 : Int) ∧ (c.1 : Int) ≤ 4) && decide ((List.length (α := Val qa) c.2 : Int) ≤ 16) && List.all (α := Val qa) c.2 fun a => qD a && decide ((List.length (α := Val (.int .i64)) a.1 : Int) = (c.1 : Int))
def qbW (c : Val Y33) : Prop := List.length (α := Val qa) c.2 ≤ 1048576
noncomputable def qgE (N : Nat) (v2 : Int) (v3 : List (Val qa)) (k0 : Unit → Option (qb [i4])) : Nat → Int → Option (qb [i4])
  | 0, _ => none
  | n + 1, v1 => bif (decide (v1 < (v3.length : Int))) then (chk (0 ≤ v1 ∧ v1 < (v3.length : Int)) (bif (!((qD (v3.getD v1.toNat (qc qa))) : Bool)) then (some (false, ())) else (chk (0 ≤ v1 ∧ v1 < (v3.length : Int)) (bif (!(decide ((((v3.getD v1.toNat (qc qa)).1 : List (Val (.int .i64))).length : Int) = v2))) then (some (false, ())) else (qgE N v2 v3 k0 n (IntKind.i64.wrap (v1 + (1 : Int)))))))) else (k0 ())
noncomputable def qxa (N : Nat) (v0 : Val Y33) : Option (qb [i4]) := qgE N (v0.1 : Int) (v0.2 : List (Val qa)) (fun (_ : Unit) => bif ((inR (v0.1 : Int) (0 : Int) (4 : Int)) : Bool) then (some ((decide (((v0.2 : List (Val qa)).length : Int) ≤ (16 : Int))), ())) else (some (false, ()))) N (0 : Int)
def qhD : Gam := [(118, qbh), (193, qaY)]
theorem qHk : Gam.get qhD 118 = some qbh := rfl
theorem qPn : Gam.get qhD 193 = some qaY := rfl
def qqB : Nm := ⟨[false, true, false, true], [], false⟩
theorem qGx : qqB.zero = false := rfl
theorem qEl : qqB.fix = [] := rfl
theorem qEr : qqB.keep = [false, true, false, true] := rfl
def qx7 : Nm := ⟨[false, true], [], false⟩
theorem qLH : qx7.zero = false := rfl
theorem qJw : qx7.fix = [] := rfl
theorem qHx : qx7.keep = [false, true] := rfl
def qlr : Nat → Tree := fun i => if i = 4 then .quiet 0 (.quiet 1 (.quiet 2 (.quiet 3 (.quiet 4 (.alt 5 (.quiet 6 (.quiet 7 (.quiet 8 (.quiet 9 (.quiet 10 (.quiet 11 (.quiet 12 (.quiet 13 (.quiet 14 (.quiet 15 (.quiet 16 (.quiet 17 (.quiet 18 .done))))))))))))) .stop))))) else .done
def qrM : Nat → Nm := fun i => if i = 2 then qqB else ⟨[], [], false⟩
def qr7 : Nat → Option Jn := fun _ => none
def qno : Nat → Option Nm := fun i => if i = 0 then some qx7 else none
def qqC : Nat → Option Nm := fun _ => none
theorem zes : qj qlr (Tryz.f104.body.getD .skip) = true := by kernel_rfl
def qcP (N : Nat) : Tab := { tr := qlr, lp := qrM, ex := qno, rg := qqC, jn := qr7, fuel := N }
theorem qC2 (N : Nat) : (qcP N).pins = false := rfl
theorem zfc (N : Nat) : qk Tryz.prog (qcP N) := qp fun _ => rfl
theorem qO1 (N : Nat) (i : Nat) : (qcP N).tr i = qlr i := rfl
theorem qIh (N : Nat) (i : Nat) : (qcP N).lp i = qrM i := rfl
theorem qDq (N : Nat) (i : Nat) : (qcP N).ex i = qno i := rfl
theorem qHC (N : Nat) (i : Nat) : (qcP N).rg i = qqC i := rfl
theorem qCG (N : Nat) (i : Nat) : (qcP N).jn i = qr7 i := rfl
theorem qLc (N : Nat) : (qcP N).fuel = N := rfl
noncomputable def qQK : Code := cut [true, false, true, true, true] (Tryz.f104.body.getD .skip)
theorem zdO {N : Nat} {Q : X → St → Option (qb [i4])} {e : List LV} {h : List Blk} : qf tt qhD (qcP N) qQK Q ⟨e, h⟩ = qf tt qhD (qcP N) (cut [true, false, true, true, true] (Tryz.f104.body.getD .skip)) Q ⟨e, h⟩ := rfl
theorem q9g (N : Nat) (v2 : Int) (v3 : List (Val qa)) {k0 : Unit → Option (qb [i4])} {Q : X → St → Option (qb [i4])} {c : Code} (hc : c = qQK) (hret : ∀ st, Q .ret st = qE tt true [i4] [.tmp 2] st) (h0 : Q (.exit 0) ⟨[u, .one (.ptr 0 0 0), u, u, u, u, u, u, u, u, u, u, u, u, u, u, u, u, u, u, u, u, u, u, u, u, u, u, u, u, u, u, u, u, u, u, u, u, u], [.box [.int .i64 v2, .sl 108 qa v3 1]]⟩ = k0 ()) : ∀ (n : Nat) (v1 : Int), qF (qf tt qhD (qcP N) c) false qqB Q n ⟨[u, .one (.ptr 0 0 0), u, .one (.int .i64 v1), u, u, u, u, u, u, u, u, u, u, u, u, u, u, u, u, u, u, u, u, u, u, u, u, u, u, u, u, u, u, u, u, u, u, u], [.box [.int .i64 v2, .sl 108 qa v3 1]]⟩ = qgE N v2 v3 k0 n v1 := by
  subst hc; intro n; induction n with
  | zero => intros; rfl
  | succ n ih =>
    intro v1
    rw [qM, zdO, qgE]; unfold Tryz.f104
    simp (maxSteps := 10000000) -implicitDefEqProofs [qO1, qlr, qIh, qrM, qDq, qno, qHC, qqC, qCG, qr7, qLc, qC2, qEl, qEr, qGx, qJw, qHx, qLH, qHk, qPn, qbh, qaY, hret, h0, ih]
theorem qYB (N : Nat) (v0 : Val Y33) : qf tt qhD (qcP N) (Tryz.f104.body.getD .skip) (qm tt true [i4] [.tmp 2]) (qq [i33] 39 (v0, ())) = qxa N v0 := by
  unfold Tryz.f104
  simp (maxSteps := 10000000) -implicitDefEqProofs [qO1, qlr, qIh, qrM, qDq, qno, qHC, qqC, qCG, qr7, qLc, qC2, qEl, qEr, qGx, qJw, qHx, qLH, qHk, qPn, qbh, qaY]
  rewrite [q9g (k0 := (fun (_ : Unit) => bif ((inR (v0.1 : Int) (0 : Int) (4 : Int)) : Bool) then (some ((decide (((v0.2 : List (Val qa)).length : Int) ≤ (16 : Int))), ())) else (some (false, ())))) N _ _ ?_ ?_ ?_]
  · rewrite [qxa]; first | rfl | simp (maxSteps := 10000000) -implicitDefEqProofs []
  · rfl
  · intro; simp only [qK, qJ, qL, qC]
  · simp (maxSteps := 10000000) -implicitDefEqProofs [qO1, qlr, qIh, qrM, qDq, qno, qHC, qqC, qCG, qr7, qLc, qC2, qEl, qEr, qGx, qJw, qHx, qLH, qHk, qPn, qbh, qaY]
noncomputable def qf5 (N : Nat) (v1 : List (Val qa)) (v2 : Int) (v4 : Int) (v5 : List (Val qa)) (k0 : Unit → Option (qb [i4])) : Nat → Int → Option (qb [i4])
  | 0, _ => none
  | n + 1, v3 => bif (decide (v3 < v2)) then (chk (0 ≤ v3 ∧ v3 < (v1.length : Int)) (bif (!((qD (v1.getD v3.toNat (qc qa))) : Bool)) then (some (false, ())) else (bif (!(decide ((((v1.getD v3.toNat (qc qa)).1 : List (Val (.int .i64))).length : Int) = v4))) then (some (false, ())) else (qf5 N v1 v2 v4 v5 k0 n (IntKind.i64.wrap (v3 + (1 : Int))))))) else (k0 ())
noncomputable def qxL (N : Nat) (v0 : Val Y33) : Option (qb [i4]) := bif (decide ((v0.1 : Int) < (0 : Int))) then (some (false, ())) else (bif (decide ((4 : Int) < (v0.1 : Int))) then (some (false, ())) else (bif (decide ((16 : Int) < ((v0.2 : List (Val qa)).length : Int))) then (some (false, ())) else (qf5 N (v0.2 : List (Val qa)) ((v0.2 : List (Val qa)).length : Int) (v0.1 : Int) (v0.2 : List (Val qa)) (fun (_ : Unit) => some (true, ())) N (0 : Int))))
def qly : Gam := [(279, qaD)]
theorem qDL : Gam.get qly 279 = some qaD := rfl
def qrt : Nm := ⟨[false, true, false, false, false, false, false, false, false, false, false, false, false, false, false, false, false, false, false, false, true, true, true], [], false⟩
theorem qAu : qrt.zero = false := rfl
theorem qFe : qrt.fix = [] := rfl
theorem qIl : qrt.keep = [false, true, false, false, false, false, false, false, false, false, false, false, false, false, false, false, false, false, false, false, true, true, true] := rfl
def qvr : Nm := ⟨[], [], false⟩
theorem qLN : qvr.zero = false := rfl
theorem qGf : qvr.fix = [] := rfl
theorem qCy : qvr.keep = [] := rfl
def qkk : Nat → Tree := fun _ => .done
def qp6 : Nat → Nm := fun i => if i = 4 then qrt else ⟨[], [], false⟩
def qrR : Nat → Option Jn := fun _ => none
def qq6 : Nat → Option Nm := fun i => if i = 0 then some qvr else none
def qpp : Nat → Option Nm := fun _ => none
theorem q6w : qj qkk (Tryz.f199.body.getD .skip) = true := by kernel_rfl
def qcu (N : Nat) : Tab := { tr := qkk, lp := qp6, ex := qq6, rg := qpp, jn := qrR, fuel := N }
theorem qOb (N : Nat) : (qcu N).pins = false := rfl
theorem qVn (N : Nat) : qk Tryz.prog (qcu N) := qp fun _ => rfl
theorem qNc (N : Nat) (i : Nat) : (qcu N).tr i = qkk i := rfl
theorem qIm (N : Nat) (i : Nat) : (qcu N).lp i = qp6 i := rfl
theorem qCH (N : Nat) (i : Nat) : (qcu N).ex i = qq6 i := rfl
theorem qKc (N : Nat) (i : Nat) : (qcu N).rg i = qpp i := rfl
theorem qM8 (N : Nat) (i : Nat) : (qcu N).jn i = qrR i := rfl
theorem qMn (N : Nat) : (qcu N).fuel = N := rfl
noncomputable def qSd : Code := cut [true, true, false, true, true, true] (Tryz.f199.body.getD .skip)
theorem q0Y {N : Nat} {Q : X → St → Option (qb [i4])} {e : List LV} {h : List Blk} : qf tt qly (qcu N) qSd Q ⟨e, h⟩ = qf tt qly (qcu N) (cut [true, true, false, true, true, true] (Tryz.f199.body.getD .skip)) Q ⟨e, h⟩ := rfl
theorem q5W (N : Nat) (v1 : List (Val qa)) (v2 : Int) (v4 : Int) (v5 : List (Val qa)) {k0 : Unit → Option (qb [i4])} {Q : X → St → Option (qb [i4])} {c : Code} (hc : c = qSd) (hret : ∀ st, Q .ret st = qE tt true [i4] [.tmp 2] st) (h0 : Q (.exit 0) ⟨[u, u, u, u, u, u, u, u, u, u, u, u, u, u, u, u, u, u, u, u, u, u, u, u, u, u, u, u, u, u, u, u, u, u, u, u, u, u], []⟩ = k0 ()) : ∀ (n : Nat) (v3 : Int), qF (qf tt qly (qcu N) c) false qrt Q n ⟨[u, .one (.ptr 0 0 0), u, u, u, u, u, u, u, u, u, u, u, u, u, u, u, u, u, u, .one (.sl 108 qa v1 1), .one (.int .i64 v2), .one (.int .i64 v3), u, u, u, u, u, u, u, u, u, u, u, u, u, u, u], [.box [.int .i64 v4, .sl 108 qa v5 1]]⟩ = qf5 N v1 v2 v4 v5 k0 n v3 := by
  subst hc; intro n; induction n with
  | zero => intros; rfl
  | succ n ih =>
    intro v3
    rw [qM, q0Y, qf5]; unfold Tryz.f199
    simp (maxSteps := 10000000) -implicitDefEqProofs [qNc, qkk, qIm, qp6, qCH, qq6, qKc, qpp, qM8, qrR, qMn, qOb, qFe, qIl, qAu, qGf, qCy, qLN, qDL, qaD, hret, h0, ih]
theorem q4c (N : Nat) (v0 : Val Y33) : qf tt qly (qcu N) (Tryz.f199.body.getD .skip) (qm tt true [i4] [.tmp 2]) (qq [i33] 38 (v0, ())) = qxL N v0 := by
  unfold Tryz.f199
  simp (maxSteps := 10000000) -implicitDefEqProofs [qNc, qkk, qIm, qp6, qCH, qq6, qKc, qpp, qM8, qrR, qMn, qOb, qFe, qIl, qAu, qGf, qCy, qLN, qDL, qaD]
  rewrite [q5W (k0 := (fun (_ : Unit) => some (true, ()))) N _ _ _ _ ?_ ?_ ?_]
  · rewrite [qxL]; first | rfl | simp (maxSteps := 10000000) -implicitDefEqProofs []
  · rfl
  · intro; simp only [qK, qJ, qL, qC]
  · simp (maxSteps := 10000000) -implicitDefEqProofs [qNc, qkk, qIm, qp6, qCH, qq6, qKc, qpp, qM8, qrR, qMn, qOb, qFe, qIl, qAu, qGf, qCy, qLN, qDL, qaD]
theorem qWd (N : Nat) (d : Int) (xs : List (Val qa)) (K : Unit → Option (qb [i4])) (hl : xs.length ≤ 1048576) (n : Nat) (hn : xs.length < n) : qgE N d xs K n 0 = bif xs.all (fun a => qD a && decide ((List.length (α := Val (.int .i64)) a.1 : Int) = d)) then K () else some (false, ()) :=
  (qax (F := fun n i (_ : Unit) => qgE N d xs K n i) (step := fun _ x _ K => bif (qD x && decide ((List.length (α := Val (.int .i64)) x.1 : Int) = d)) then K () else some (false, ())) (k := K) hl (fun n i s hi => by
    rw [qgE, qn (by omega), qe (by omega), qe (by omega), qG hi]
    cases qD xs[i] <;> simp [qaP]) (fun n i s hi => by rw [qgE, ql (by omega)]) n () hn).trans (qfz xs 0)
theorem qYQ (N : Nat) (d : Int) (xs ys : List (Val qa)) (K : Unit → Option (qb [i4])) (hl : xs.length ≤ 1048576) (n : Nat) (hn : xs.length < n) : qf5 N xs xs.length d ys K n 0 = bif xs.all (fun a => qD a && decide ((List.length (α := Val (.int .i64)) a.1 : Int) = d)) then K () else some (false, ()) :=
  (qax (F := fun n i (_ : Unit) => qf5 N xs xs.length d ys K n i) (step := fun _ x _ K => bif (qD x && decide ((List.length (α := Val (.int .i64)) x.1 : Int) = d)) then K () else some (false, ())) (k := K) hl (fun n i s hi => by
    rw [qf5, qn (by omega), qe (by omega), qG hi]
    cases qD xs[i] <;> simp [qaP]) (fun n i s hi => by rw [qf5, ql (by omega)]) n () hn).trans (qfz xs 0)
def qcj : G := { ps := [i33], rs := [i4], dp := true, pre := fun x => qbW x.1, fn := fun x => (qz x.1, ()) }
def qay : G := { ps := [i33], rs := [i4], dp := true, pre := fun _ => True, fn := fun x => (qz x.1, ()) }
theorem qYP (c : Val Y33) (h : qbW c) : ∃ N, qxa N c = some (qz c, ()) := ⟨List.length (α := Val qa) c.2 + 1, by
  obtain ⟨d, xs⟩ := c
  change Int at d
  change List (Val qa) at xs
  rw [qxa, qz]
  dsimp only
  rw [qWd _ _ _ _ h _ (Nat.lt_succ_self _)]
  simp only [inR]
  cases List.all xs _ <;> cases decide (0 ≤ d ∧ d ≤ 4) <;> simp⟩
theorem qOU : Sound Tryz.prog 104 qcj := qt (tt := tt) (Γ := qhD) hT (qg qwV (qg qyJ qo)) hm (fn := Tryz.f104) Tryz.func104 (c := Tryz.f104.body.getD .skip) (by kernel_rfl) (by kernel_rfl) fun x hx => by
  obtain ⟨N, h⟩ := qYP x.1 hx
  exact ⟨qcP N, zes, qw _, zfc N, (qYB N x.1).trans h⟩
theorem zay (c : Val Y33) : ∃ N, qxL N c = some (qz c, ()) := ⟨List.length (α := Val qa) c.2 + 1, by
  obtain ⟨d, xs⟩ := c
  change Int at d
  change List (Val qa) at xs
  rw [qxL, qz]
  dsimp only
  by_cases h1 : d < 0
  · have : ¬ (0 ≤ d ∧ d ≤ 4) := by omega
    simp [h1, this]
  · by_cases h2 : 4 < d
    · have : ¬ (0 ≤ d ∧ d ≤ 4) := by omega
      simp [h1, h2, this]
    · have : 0 ≤ d ∧ d ≤ 4 := by omega
      by_cases h3 : (16 : Int) < xs.length
      · have h3' : ¬ (xs.length : Int) ≤ 16 := by omega
        simp only [h1, h2, h3, h3', decide_true, decide_false, cond_true, cond_false, Bool.and_false, Bool.false_and]
      · have h3' : (xs.length : Int) ≤ 16 := by omega
        rw [qYQ _ _ _ _ _ (by omega) _ (Nat.lt_succ_self _)]
        simp only [h1, h2, h3, h3', this, decide_true, decide_false, cond_true, cond_false, Bool.true_and, and_self]
        cases List.all xs _ <;> rfl⟩
theorem qnN : Sound Tryz.prog 199 qay := qt (tt := tt) (Γ := qly) hT (qg qnP qo) hm (fn := Tryz.f199) Tryz.func199 (c := Tryz.f199.body.getD .skip) (by kernel_rfl) (by kernel_rfl) fun x hx => by
  obtain ⟨N, h⟩ := zay x.1
  exact ⟨qcu N, q6w, qw _, qVn N, (q4c N x.1).trans h⟩
end Go.T
