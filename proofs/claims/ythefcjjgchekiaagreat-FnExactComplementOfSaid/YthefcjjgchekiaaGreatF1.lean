/- Sizes, copies and equality of regions. -/
import Derived.Test.YthefcjjgchekiaaGreatA1
set_option linter.unusedSimpArgs false
set_option linter.unusedVariables false
namespace Go.T
open Go Go.Proofs
set_option maxHeartbeats 4000000
set_option maxRecDepth 100000
def qfn (x : List (Val (.int .i64))) (n : Int) : Int := szV (.slice 3 (.int .i64)) x n
def qyo (x : List (Val (.int .i64))) (n : Int) : Prop := qh3 (.slice 3 (.int .i64)) x n
noncomputable def qyM (N : Nat) (v0 : List (Val (.int .i64))) (v1 : Int) : Option (qb [i3]) := bif (decide ((IntKind.i64.wrap (v1 - (v0.length : Int))) < (0 : Int))) then (some ((-1 : Int), ())) else (some ((IntKind.i64.wrap (v1 - (v0.length : Int))), ()))
def qSQ : Gam := []
def qvP : Nat → Tree := fun _ => .done
def qCK : Nat → Nm := fun _ => ⟨[], [], false⟩
def qOZ : Nat → Option Jn := fun _ => none
def qHB : Nat → Option Nm := fun _ => none
def qIg : Nat → Option Nm := fun _ => none
theorem q8i : qj qvP (Tryz.f176.body.getD .skip) = true := by kernel_rfl
def qd2 (N : Nat) : Tab := { tr := qvP, lp := qCK, ex := qHB, rg := qIg, jn := qOZ, fuel := N }
theorem q30 (N : Nat) : (qd2 N).pins = false := rfl
theorem qZh (N : Nat) : qk Tryz.prog (qd2 N) := qp fun _ => rfl
theorem q3j (N : Nat) (i : Nat) : (qd2 N).tr i = qvP i := rfl
theorem zen (N : Nat) (i : Nat) : (qd2 N).lp i = qCK i := rfl
theorem q5s (N : Nat) (i : Nat) : (qd2 N).ex i = qHB i := rfl
theorem qWB (N : Nat) (i : Nat) : (qd2 N).rg i = qIg i := rfl
theorem zeO (N : Nat) (i : Nat) : (qd2 N).jn i = qOZ i := rfl
theorem zfr (N : Nat) : (qd2 N).fuel = N := rfl
theorem q9b (N : Nat) (v0 : List (Val (.int .i64))) (v1 : Int) : qf tt qSQ (qd2 N) (Tryz.f176.body.getD .skip) (qm tt true [i3] [.tmp 4]) (qq [i25, i3] 12 (v0, v1, ())) = qyM N v0 v1 := by
  rw [qyM]; unfold Tryz.f176
  simp (maxSteps := 10000000) -implicitDefEqProofs [q3j, qvP, zen, qCK, q5s, qHB, qWB, qIg, zeO, qOZ, zfr, q30]
  try rfl
def qxw : G := { ps := [i25, i3], rs := [i3], dp := true, pre := fun x => qyo x.1 x.2.1, fn := fun x => (qfn x.1 x.2.1, ()) }
theorem qYd (x : List (Val (.int .i64))) (n : Int) (h : qyo x n) : ∃ N, qyM N x n = some (qfn x n, ()) := ⟨0, by
  obtain ⟨hs, h0, h1⟩ := h
  rw [qyM, qNP h0 h1 hs.1]
  simp only [qfn, qHi]
  by_cases c : n - (List.length x : Int) < 0
  · rw [qn c, if_pos c]
  · rw [ql c, if_neg c, q8z (fun _ _ => rfl) _ _ (by omega)]⟩
theorem qX5 : Sound Tryz.prog 176 qxw := qt (tt := tt) (Γ := qSQ) hT qo hm (fn := Tryz.f176) Tryz.func176 (c := Tryz.f176.body.getD .skip) (by kernel_rfl) (by kernel_rfl) fun x hx => by
  obtain ⟨N, h⟩ := qYd x.1 x.2.1 hx
  exact ⟨qd2 N, q8i, qw _, qZh N, (q9b N x.1 x.2.1).trans h⟩
def qjl (x : Val qR) (n : Int) : Int := szV qR x n
def qvZ (x : Val qR) (n : Int) : Prop := qh3 qR x n
noncomputable def qwL (N : Nat) (v0 : Val qR) (v1 : Int) : Option (qb [i3]) := chk (qyo (v0.1 : List (Val (.int .i64))) v1) (bif (decide (((qfn (v0.1 : List (Val (.int .i64))) v1) : Int) < (0 : Int))) then (some ((-1 : Int), ())) else (some (((qfn (v0.1 : List (Val (.int .i64))) v1) : Int), ())))
def qK0 : Gam := [(176, qxw)]
theorem q4U : Gam.get qK0 176 = some qxw := rfl
def qz5 : Nat → Tree := fun _ => .done
def qKg : Nat → Nm := fun _ => ⟨[], [], false⟩
def qQi : Nat → Option Jn := fun _ => none
def qJk : Nat → Option Nm := fun _ => none
def qOq : Nat → Option Nm := fun _ => none
theorem q3M : qj qz5 (Tryz.f175.body.getD .skip) = true := by kernel_rfl
def qeR (N : Nat) : Tab := { tr := qz5, lp := qKg, ex := qJk, rg := qOq, jn := qQi, fuel := N }
theorem qZG (N : Nat) : (qeR N).pins = false := rfl
theorem qWF (N : Nat) : qk Tryz.prog (qeR N) := qp fun _ => rfl
theorem q0Z (N : Nat) (i : Nat) : (qeR N).tr i = qz5 i := rfl
theorem q1h (N : Nat) (i : Nat) : (qeR N).lp i = qKg i := rfl
theorem q6M (N : Nat) (i : Nat) : (qeR N).ex i = qJk i := rfl
theorem qZ4 (N : Nat) (i : Nat) : (qeR N).rg i = qOq i := rfl
theorem q3Y (N : Nat) (i : Nat) : (qeR N).jn i = qQi i := rfl
theorem q7b (N : Nat) : (qeR N).fuel = N := rfl
theorem q0n (N : Nat) (v0 : Val qR) (v1 : Int) : qf tt qK0 (qeR N) (Tryz.f175.body.getD .skip) (qm tt true [i3] [.tmp 4]) (qq [qgQ, i3] 12 (v0, v1, ())) = qwL N v0 v1 := by
  rw [qwL]; unfold Tryz.f175
  simp (maxSteps := 10000000) -implicitDefEqProofs [q0Z, qz5, q1h, qKg, q6M, qJk, qZ4, qOq, q3Y, qQi, q7b, qZG, q4U, qxw]
  try rfl
def qkp : G := { ps := [qgQ, i3], rs := [i3], dp := true, pre := fun x => qvZ x.1 x.2.1, fn := fun x => (qjl x.1 x.2.1, ()) }
theorem q24 (x : Val qR) (n : Int) (h : qvZ x n) : ∃ N, qwL N x n = some (qjl x n, ()) := ⟨0, by
  obtain ⟨x0, x1, x2⟩ := x
  obtain ⟨hs, h0, h1⟩ := h
  obtain ⟨s0, s1, s2⟩ := hs
  rw [qwL, qjl]
  dsimp only
  rw [qe (show qyo x0 n from ⟨s0, h0, h1⟩)]
  by_cases c0 : qfn x0 n < 0
  · rw [qn c0, qVP (show szV (.slice 3 (.int .i64)) x0 n < 0 from c0)]
  · have h00 : 0 ≤ qfn x0 n := by omega
    have h10 : qfn x0 n ≤ 1048576 := Int.le_trans (qbL (.slice 3 (.int .i64)) x0 n h0).1 h1
    rw [ql c0, q6q (show 0 ≤ szV (.slice 3 (.int .i64)) x0 n from h00)]
    change _ = some (szV (.pair (.int .i64) .bool) _ (qfn x0 n), ())
    rw [qJs h00]
    rfl⟩
theorem q0S : Sound Tryz.prog 175 qkp := qt (tt := tt) (Γ := qK0) hT (qg qX5 qo) hm (fn := Tryz.f175) Tryz.func175 (c := Tryz.f175.body.getD .skip) (by kernel_rfl) (by kernel_rfl) fun x hx => by
  obtain ⟨N, h⟩ := q24 x.1 x.2.1 hx
  exact ⟨qeR N, q3M, qw _, qWF N, (q0n N x.1 x.2.1).trans h⟩
def qkC (x : List (Val qR)) (n : Int) : Int := szV (.slice 101 qR) x n
def qy8 (x : List (Val qR)) (n : Int) : Prop := qh3 (.slice 101 qR) x n
noncomputable def qhY (N : Nat) (v2 : List (Val qR)) (k0 : Int → Option (qb [i3])) : Nat → Int → Int → Option (qb [i3])
  | 0, _, _ => none
  | n + 1, v3, v4 => bif (decide (v4 < (v2.length : Int))) then (chk (0 ≤ v4 ∧ v4 < (v2.length : Int)) (chk (qvZ (v2.getD v4.toNat (qc qR)) v3) (bif (decide (((qjl (v2.getD v4.toNat (qc qR)) v3) : Int) < (0 : Int))) then (some ((-1 : Int), ())) else (qhY N v2 k0 n ((qjl (v2.getD v4.toNat (qc qR)) v3) : Int) (IntKind.i64.wrap (v4 + (1 : Int))))))) else (k0 v3)
noncomputable def qzp (N : Nat) (v0 : List (Val qR)) (v1 : Int) : Option (qb [i3]) := bif (decide ((IntKind.i64.wrap (v1 - (v0.length : Int))) < (0 : Int))) then (some ((-1 : Int), ())) else (qhY N v0 (fun (v6 : Int) => some (v6, ())) N (IntKind.i64.wrap (v1 - (v0.length : Int))) (0 : Int))
def qkf : Gam := [(175, qkp)]
theorem qFV : Gam.get qkf 175 = some qkp := rfl
def qs0 : Nm := ⟨[true, true, false, false, false, true], [], false⟩
theorem qNl : qs0.zero = false := rfl
theorem qGH : qs0.fix = [] := rfl
theorem qMb : qs0.keep = [true, true, false, false, false, true] := rfl
def quR : Nm := ⟨[false, true], [], false⟩
theorem qJS : quR.zero = false := rfl
theorem qDy : quR.fix = [] := rfl
theorem qA3 : quR.keep = [false, true] := rfl
def qkj : Nat → Tree := fun _ => .done
def qrC : Nat → Nm := fun i => if i = 5 then qs0 else ⟨[], [], false⟩
def qp2 : Nat → Option Jn := fun _ => none
def qrW : Nat → Option Nm := fun i => if i = 0 then some quR else none
def qn7 : Nat → Option Nm := fun _ => none
theorem q2Z : qj qkj (Tryz.f103.body.getD .skip) = true := by kernel_rfl
def qcp (N : Nat) : Tab := { tr := qkj, lp := qrC, ex := qrW, rg := qn7, jn := qp2, fuel := N }
theorem qOI (N : Nat) : (qcp N).pins = false := rfl
theorem q7S (N : Nat) : qk Tryz.prog (qcp N) := qp fun _ => rfl
theorem qId (N : Nat) (i : Nat) : (qcp N).tr i = qkj i := rfl
theorem qQe (N : Nat) (i : Nat) : (qcp N).lp i = qrC i := rfl
theorem qET (N : Nat) (i : Nat) : (qcp N).ex i = qrW i := rfl
theorem qLO (N : Nat) (i : Nat) : (qcp N).rg i = qn7 i := rfl
theorem qAG (N : Nat) (i : Nat) : (qcp N).jn i = qp2 i := rfl
theorem qD6 (N : Nat) : (qcp N).fuel = N := rfl
noncomputable def qQQ : Code := cut [true, true, true, false, true, true, true] (Tryz.f103.body.getD .skip)
theorem zfz {N : Nat} {Q : X → St → Option (qb [i3])} {e : List LV} {h : List Blk} : qf tt qkf (qcp N) qQQ Q ⟨e, h⟩ = qf tt qkf (qcp N) (cut [true, true, true, false, true, true, true] (Tryz.f103.body.getD .skip)) Q ⟨e, h⟩ := rfl
theorem q9W (N : Nat) (v2 : List (Val qR)) {k0 : Int → Option (qb [i3])} {Q : X → St → Option (qb [i3])} {c : Code} (hc : c = qQQ) (hret : ∀ st, Q .ret st = qE tt true [i3] [.tmp 4] st) (h0 : ∀ (v5 : Int), Q (.exit 0) ⟨[u, .one (.int .i64 v5), u, u, u, u, u, u, u, u, u, u, u, u, u, u, u, u, u, u, u, u, u, u, u, u, u], []⟩ = k0 v5) : ∀ (n : Nat) (v3 : Int) (v4 : Int), qF (qf tt qkf (qcp N) c) false qs0 Q n ⟨[.one (.sl 101 qR v2 0), .one (.int .i64 v3), u, u, u, .one (.int .i64 v4), u, u, u, u, u, u, u, u, u, u, u, u, u, u, u, u, u, u, u, u, u], []⟩ = qhY N v2 k0 n v3 v4 := by
  subst hc; intro n; induction n with
  | zero => intros; rfl
  | succ n ih =>
    intro v3 v4
    rw [qM, zfz, qhY]; unfold Tryz.f103
    simp (maxSteps := 10000000) -implicitDefEqProofs [qId, qkj, qQe, qrC, qET, qrW, qLO, qn7, qAG, qp2, qD6, qOI, qGH, qMb, qNl, qDy, qA3, qJS, qFV, qkp, hret, h0, ih]
theorem qZU (N : Nat) (v0 : List (Val qR)) (v1 : Int) : qf tt qkf (qcp N) (Tryz.f103.body.getD .skip) (qm tt true [i3] [.tmp 4]) (qq [i22, i3] 27 (v0, v1, ())) = qzp N v0 v1 := by
  unfold Tryz.f103
  simp (maxSteps := 10000000) -implicitDefEqProofs [qId, qkj, qQe, qrC, qET, qrW, qLO, qn7, qAG, qp2, qD6, qOI, qGH, qMb, qNl, qDy, qA3, qJS, qFV, qkp]
  rewrite [q9W (k0 := (fun (v6 : Int) => some (v6, ()))) N _ ?_ ?_ ?_]
  · rewrite [qzp]; first | rfl | simp (maxSteps := 10000000) -implicitDefEqProofs []
  · rfl
  · intro; simp only [qK, qJ, qL, qC]
  · intro v6; simp (maxSteps := 10000000) -implicitDefEqProofs [qId, qkj, qQe, qrC, qET, qrW, qLO, qn7, qAG, qp2, qD6, qOI, qGH, qMb, qNl, qDy, qA3, qJS, qFV, qkp]
def qwo : G := { ps := [i22, i3], rs := [i3], dp := true, pre := fun x => qy8 x.1 x.2.1, fn := fun x => (qkC x.1 x.2.1, ()) }
theorem q0J (x : List (Val qR)) (n : Int) (h : qy8 x n) : ∃ N, qzp N x n = some (qkC x n, ()) := ⟨List.length x + 1, by
  obtain ⟨hs, h0, h1⟩ := h
  rw [qzp, qNP h0 h1 hs.1]
  simp only [qkC, qHi]
  by_cases c : n - (List.length x : Int) < 0
  · rw [qn c, if_pos c]
  · rw [ql c, if_neg c]
    refine (qax (F := fun n i s => qhY _ x _ n s i) (step := fun _ y (s : Int) K => chk (qvZ y s) (bif decide (qjl y s < 0) then some ((-1 : Int), ()) else K (qjl y s))) (k := fun s => some (s, ())) (by omega) (fun n i s hi => ?_) (fun n i s hi => ?_) _ _ (Nat.lt_succ_self _)).trans (qIZ (t := qR) x 0 _ (by omega) (by omega) hs.2)
    · rw [qhY, qn (by omega), qe (by omega), qG hi]
    · rw [qhY, ql (by omega)]⟩
theorem zdt : Sound Tryz.prog 103 qwo := qt (tt := tt) (Γ := qkf) hT (qg q0S qo) hm (fn := Tryz.f103) Tryz.func103 (c := Tryz.f103.body.getD .skip) (by kernel_rfl) (by kernel_rfl) fun x hx => by
  obtain ⟨N, h⟩ := q0J x.1 x.2.1 hx
  exact ⟨qcp N, q2Z, qw _, q7S N, (qZU N x.1 x.2.1).trans h⟩
def qhw (x : Val Y24) (n : Int) : Int := szV Y24 x n
def qvx (x : Val Y24) (n : Int) : Prop := qh3 Y24 x n
noncomputable def m22 (N : Nat) (v0 : Val Y24) (v1 : Int) : Option (qb [i3]) := chk (qy8 (v0.2 : List (Val qR)) v1) (bif (decide (((qkC (v0.2 : List (Val qR)) v1) : Int) < (0 : Int))) then (some ((-1 : Int), ())) else (some (((qkC (v0.2 : List (Val qR)) v1) : Int), ())))
def Γ22 : Gam := [(103, qwo)]
theorem zep : Gam.get Γ22 103 = some qwo := rfl
def qzF : Nat → Tree := fun _ => .done
def qCT : Nat → Nm := fun _ => ⟨[], [], false⟩
def qOY : Nat → Option Jn := fun _ => none
def qMh : Nat → Option Nm := fun _ => none
def qEL : Nat → Option Nm := fun _ => none
theorem p22 : qj qzF (Tryz.f22.body.getD .skip) = true := by kernel_rfl
def T22 (N : Nat) : Tab := { tr := qzF, lp := qCT, ex := qMh, rg := qEL, jn := qOY, fuel := N }
theorem q2q (N : Nat) : (T22 N).pins = false := rfl
theorem zeJ (N : Nat) : qk Tryz.prog (T22 N) := qp fun _ => rfl
theorem q0e (N : Nat) (i : Nat) : (T22 N).tr i = qzF i := rfl
theorem qVU (N : Nat) (i : Nat) : (T22 N).lp i = qCT i := rfl
theorem zbm (N : Nat) (i : Nat) : (T22 N).ex i = qMh i := rfl
theorem q1e (N : Nat) (i : Nat) : (T22 N).rg i = qEL i := rfl
theorem qZX (N : Nat) (i : Nat) : (T22 N).jn i = qOY i := rfl
theorem q4N (N : Nat) : (T22 N).fuel = N := rfl
theorem zdE (N : Nat) (v0 : Val Y24) (v1 : Int) : qf tt Γ22 (T22 N) (Tryz.f22.body.getD .skip) (qm tt true [i3] [.tmp 4]) (qq [i24, i3] 12 (v0, v1, ())) = m22 N v0 v1 := by
  rw [m22]; unfold Tryz.f22
  simp (maxSteps := 10000000) -implicitDefEqProofs [q0e, qzF, qVU, qCT, zbm, qMh, q1e, qEL, qZX, qOY, q4N, q2q, zep, qwo]
  try rfl
def g22 : G := { ps := [i24, i3], rs := [i3], dp := true, pre := fun x => qvx x.1 x.2.1, fn := fun x => (qhw x.1 x.2.1, ()) }
theorem e22 (x : Val Y24) (n : Int) (h : qvx x n) : ∃ N, m22 N x n = some (qhw x n, ()) := ⟨0, by
  obtain ⟨x0, x1⟩ := x
  obtain ⟨hs, h0, h1⟩ := h
  obtain ⟨s0, s1⟩ := hs
  rw [m22, qhw]
  dsimp only
  rw [qJs h0]
  rw [qe (show qy8 x1 n from ⟨s1, h0, h1⟩)]
  by_cases c1 : qkC x1 n < 0
  · rw [qn c1]
    exact congrArg (fun z => some (z, ())) ((qbL (.slice 101 qR) x1 n h0).2 c1).symm
  · rw [ql c1]
    rfl⟩
theorem s22 : Sound Tryz.prog 22 g22 := qt (tt := tt) (Γ := Γ22) hT (qg zdt qo) hm (fn := Tryz.f22) Tryz.func22 (c := Tryz.f22.body.getD .skip) (by kernel_rfl) (by kernel_rfl) fun x hx => by
  obtain ⟨N, h⟩ := e22 x.1 x.2.1 hx
  exact ⟨T22 N, p22, qw _, zeJ N, (zdE N x.1 x.2.1).trans h⟩
def qk1 (x : List (Val Y24)) (n : Int) : Int := szV (.slice 24 Y24) x n
def qys (x : List (Val Y24)) (n : Int) : Prop := qh3 (.slice 24 Y24) x n
noncomputable def qi7 (N : Nat) (v2 : List (Val Y24)) (k0 : Int → Option (qb [i3])) : Nat → Int → Int → Option (qb [i3])
  | 0, _, _ => none
  | n + 1, v3, v4 => bif (decide (v4 < (v2.length : Int))) then (chk (0 ≤ v4 ∧ v4 < (v2.length : Int)) (chk (qvx (v2.getD v4.toNat (qc Y24)) v3) (bif (decide (((qhw (v2.getD v4.toNat (qc Y24)) v3) : Int) < (0 : Int))) then (some ((-1 : Int), ())) else (qi7 N v2 k0 n ((qhw (v2.getD v4.toNat (qc Y24)) v3) : Int) (IntKind.i64.wrap (v4 + (1 : Int))))))) else (k0 v3)
noncomputable def qwQ (N : Nat) (v0 : List (Val Y24)) (v1 : Int) : Option (qb [i3]) := bif (decide ((IntKind.i64.wrap (v1 - (v0.length : Int))) < (0 : Int))) then (some ((-1 : Int), ())) else (qi7 N v0 (fun (v6 : Int) => some (v6, ())) N (IntKind.i64.wrap (v1 - (v0.length : Int))) (0 : Int))
def qlz : Gam := [(22, g22)]
theorem qFb : Gam.get qlz 22 = some g22 := rfl
def qtx : Nm := ⟨[true, true, false, false, false, true], [], false⟩
theorem qBo : qtx.zero = false := rfl
theorem qNJ : qtx.fix = [] := rfl
theorem qD9 : qtx.keep = [true, true, false, false, false, true] := rfl
def qyN : Nm := ⟨[false, true], [], false⟩
theorem qNT : qyN.zero = false := rfl
theorem qCk : qyN.fix = [] := rfl
theorem qAY : qyN.keep = [false, true] := rfl
def qlC : Nat → Tree := fun _ => .done
def qtu : Nat → Nm := fun i => if i = 5 then qtx else ⟨[], [], false⟩
def qqU : Nat → Option Jn := fun _ => none
def qrP : Nat → Option Nm := fun i => if i = 0 then some qyN else none
def qp3 : Nat → Option Nm := fun _ => none
theorem zeN : qj qlC (Tryz.f116.body.getD .skip) = true := by kernel_rfl
def qcA (N : Nat) : Tab := { tr := qlC, lp := qtu, ex := qrP, rg := qp3, jn := qqU, fuel := N }
theorem qF8 (N : Nat) : (qcA N).pins = false := rfl
theorem q15 (N : Nat) : qk Tryz.prog (qcA N) := qp fun _ => rfl
theorem qFH (N : Nat) (i : Nat) : (qcA N).tr i = qlC i := rfl
theorem qGz (N : Nat) (i : Nat) : (qcA N).lp i = qtu i := rfl
theorem qQp (N : Nat) (i : Nat) : (qcA N).ex i = qrP i := rfl
theorem qDX (N : Nat) (i : Nat) : (qcA N).rg i = qp3 i := rfl
theorem qMC (N : Nat) (i : Nat) : (qcA N).jn i = qqU i := rfl
theorem qOc (N : Nat) : (qcA N).fuel = N := rfl
noncomputable def qSy : Code := cut [true, true, true, false, true, true, true] (Tryz.f116.body.getD .skip)
theorem zaT {N : Nat} {Q : X → St → Option (qb [i3])} {e : List LV} {h : List Blk} : qf tt qlz (qcA N) qSy Q ⟨e, h⟩ = qf tt qlz (qcA N) (cut [true, true, true, false, true, true, true] (Tryz.f116.body.getD .skip)) Q ⟨e, h⟩ := rfl
theorem q1l (N : Nat) (v2 : List (Val Y24)) {k0 : Int → Option (qb [i3])} {Q : X → St → Option (qb [i3])} {c : Code} (hc : c = qSy) (hret : ∀ st, Q .ret st = qE tt true [i3] [.tmp 4] st) (h0 : ∀ (v5 : Int), Q (.exit 0) ⟨[u, .one (.int .i64 v5), u, u, u, u, u, u, u, u, u, u, u, u, u, u, u, u, u, u, u, u, u, u, u, u, u], []⟩ = k0 v5) : ∀ (n : Nat) (v3 : Int) (v4 : Int), qF (qf tt qlz (qcA N) c) false qtx Q n ⟨[.one (.sl 24 Y24 v2 0), .one (.int .i64 v3), u, u, u, .one (.int .i64 v4), u, u, u, u, u, u, u, u, u, u, u, u, u, u, u, u, u, u, u, u, u], []⟩ = qi7 N v2 k0 n v3 v4 := by
  subst hc; intro n; induction n with
  | zero => intros; rfl
  | succ n ih =>
    intro v3 v4
    rw [qM, zaT, qi7]; unfold Tryz.f116
    simp (maxSteps := 10000000) -implicitDefEqProofs [qFH, qlC, qGz, qtu, qQp, qrP, qDX, qp3, qMC, qqU, qOc, qF8, qNJ, qD9, qBo, qCk, qAY, qNT, qFb, g22, hret, h0, ih]
theorem q3J (N : Nat) (v0 : List (Val Y24)) (v1 : Int) : qf tt qlz (qcA N) (Tryz.f116.body.getD .skip) (qm tt true [i3] [.tmp 4]) (qq [i40, i3] 27 (v0, v1, ())) = qwQ N v0 v1 := by
  unfold Tryz.f116
  simp (maxSteps := 10000000) -implicitDefEqProofs [qFH, qlC, qGz, qtu, qQp, qrP, qDX, qp3, qMC, qqU, qOc, qF8, qNJ, qD9, qBo, qCk, qAY, qNT, qFb, g22]
  rewrite [q1l (k0 := (fun (v6 : Int) => some (v6, ()))) N _ ?_ ?_ ?_]
  · rewrite [qwQ]; first | rfl | simp (maxSteps := 10000000) -implicitDefEqProofs []
  · rfl
  · intro; simp only [qK, qJ, qL, qC]
  · intro v6; simp (maxSteps := 10000000) -implicitDefEqProofs [qFH, qlC, qGz, qtu, qQp, qrP, qDX, qp3, qMC, qqU, qOc, qF8, qNJ, qD9, qBo, qCk, qAY, qNT, qFb, g22]
def qyI : G := { ps := [i40, i3], rs := [i3], dp := true, pre := fun x => qys x.1 x.2.1, fn := fun x => (qk1 x.1 x.2.1, ()) }
theorem zd4 (x : List (Val Y24)) (n : Int) (h : qys x n) : ∃ N, qwQ N x n = some (qk1 x n, ()) := ⟨List.length x + 1, by
  obtain ⟨hs, h0, h1⟩ := h
  rw [qwQ, qNP h0 h1 hs.1]
  simp only [qk1, qHi]
  by_cases c : n - (List.length x : Int) < 0
  · rw [qn c, if_pos c]
  · rw [ql c, if_neg c]
    refine (qax (F := fun n i s => qi7 _ x _ n s i) (step := fun _ y (s : Int) K => chk (qvx y s) (bif decide (qhw y s < 0) then some ((-1 : Int), ()) else K (qhw y s))) (k := fun s => some (s, ())) (by omega) (fun n i s hi => ?_) (fun n i s hi => ?_) _ _ (Nat.lt_succ_self _)).trans (qIZ (t := Y24) x 0 _ (by omega) (by omega) hs.2)
    · rw [qi7, qn (by omega), qe (by omega), qG hi]
    · rw [qi7, ql (by omega)]⟩
theorem q7W : Sound Tryz.prog 116 qyI := qt (tt := tt) (Γ := qlz) hT (qg s22 qo) hm (fn := Tryz.f116) Tryz.func116 (c := Tryz.f116.body.getD .skip) (by kernel_rfl) (by kernel_rfl) fun x hx => by
  obtain ⟨N, h⟩ := zd4 x.1 x.2.1 hx
  exact ⟨qcA N, zeN, qw _, q15 N, (q3J N x.1 x.2.1).trans h⟩
def qaO (x : Val Y42) (n : Int) : Int := szV Y42 x n
def qb6 (x : Val Y42) (n : Int) : Prop := qh3 Y42 x n
noncomputable def m30 (N : Nat) (v0 : Val Y42) (v1 : Int) : Option (qb [i3]) := chk (qys (v0.2 : List (Val Y24)) v1) (bif (decide (((qk1 (v0.2 : List (Val Y24)) v1) : Int) < (0 : Int))) then (some ((-1 : Int), ())) else (some (((qk1 (v0.2 : List (Val Y24)) v1) : Int), ())))
def Γ30 : Gam := [(116, qyI)]
theorem q37 : Gam.get Γ30 116 = some qyI := rfl
def qt0 : Nat → Tree := fun _ => .done
def qNi : Nat → Nm := fun _ => ⟨[], [], false⟩
def qOe : Nat → Option Jn := fun _ => none
def qKJ : Nat → Option Nm := fun _ => none
def qGM : Nat → Option Nm := fun _ => none
theorem p30 : qj qt0 (Tryz.f30.body.getD .skip) = true := by kernel_rfl
def T30 (N : Nat) : Tab := { tr := qt0, lp := qNi, ex := qKJ, rg := qGM, jn := qOe, fuel := N }
theorem qW6 (N : Nat) : (T30 N).pins = false := rfl
theorem qWQ (N : Nat) : qk Tryz.prog (T30 N) := qp fun _ => rfl
theorem qYn (N : Nat) (i : Nat) : (T30 N).tr i = qt0 i := rfl
theorem q31 (N : Nat) (i : Nat) : (T30 N).lp i = qNi i := rfl
theorem q1G (N : Nat) (i : Nat) : (T30 N).ex i = qKJ i := rfl
theorem zdo (N : Nat) (i : Nat) : (T30 N).rg i = qGM i := rfl
theorem q8c (N : Nat) (i : Nat) : (T30 N).jn i = qOe i := rfl
theorem qXr (N : Nat) : (T30 N).fuel = N := rfl
theorem q5c (N : Nat) (v0 : Val Y42) (v1 : Int) : qf tt Γ30 (T30 N) (Tryz.f30.body.getD .skip) (qm tt true [i3] [.tmp 4]) (qq [i42, i3] 12 (v0, v1, ())) = m30 N v0 v1 := by
  rw [m30]; unfold Tryz.f30
  simp (maxSteps := 10000000) -implicitDefEqProofs [qYn, qt0, q31, qNi, q1G, qKJ, zdo, qGM, q8c, qOe, qXr, qW6, q37, qyI]
  try rfl
def g30 : G := { ps := [i42, i3], rs := [i3], dp := true, pre := fun x => qb6 x.1 x.2.1, fn := fun x => (qaO x.1 x.2.1, ()) }
theorem e30 (x : Val Y42) (n : Int) (h : qb6 x n) : ∃ N, m30 N x n = some (qaO x n, ()) := ⟨0, by
  obtain ⟨x0, x1⟩ := x
  obtain ⟨hs, h0, h1⟩ := h
  obtain ⟨s0, s1⟩ := hs
  rw [m30, qaO]
  dsimp only
  rw [qJs h0]
  rw [qe (show qys x1 n from ⟨s1, h0, h1⟩)]
  by_cases c1 : qk1 x1 n < 0
  · rw [qn c1]
    exact congrArg (fun z => some (z, ())) ((qbL (.slice 24 Y24) x1 n h0).2 c1).symm
  · rw [ql c1]
    rfl⟩
theorem s30 : Sound Tryz.prog 30 g30 := qt (tt := tt) (Γ := Γ30) hT (qg q7W qo) hm (fn := Tryz.f30) Tryz.func30 (c := Tryz.f30.body.getD .skip) (by kernel_rfl) (by kernel_rfl) fun x hx => by
  obtain ⟨N, h⟩ := e30 x.1 x.2.1 hx
  exact ⟨T30 N, p30, qw _, qWQ N, (q5c N x.1 x.2.1).trans h⟩
def qHa (x : List (Val (.int .i64))) : List (Val (.int .i64)) := x
def qyS (x : List (Val (.int .i64))) : Prop := Bd (.slice 3 (.int .i64)) x
noncomputable def qjI (N : Nat) (v1 : List (Val (.int .i64))) (k0 : (List (Val (.int .i64))) → Option (qb [i25])) : Nat → Int → (List (Val (.int .i64))) → Option (qb [i25])
  | 0, _, _ => none
  | n + 1, v2, v3 => bif (decide (v2 < (v1.length : Int))) then (chk (0 ≤ v2 ∧ v2 < (v1.length : Int)) (chk (0 ≤ v2 ∧ v2 < (v3.length : Int)) (chk (v2.toNat < v3.length) (qjI N v1 k0 n (IntKind.i64.wrap (v2 + (1 : Int))) (v3.set v2.toNat ((v1.getD v2.toNat (qc (.int .i64))) : Int)))))) else (k0 v3)
noncomputable def m25 (N : Nat) (v0 : List (Val (.int .i64))) : Option (qb [i25]) := chk (0 ≤ (v0.length : Int) ∧ (v0.length : Int) ≤ (v0.length : Int) ∧ (v0.length : Int) ≤ 1048576) (qjI N v0 (fun (v5 : List (Val (.int .i64))) => some (v5, ())) N (0 : Int) (List.replicate (v0.length : Int).toNat (qc (.int .i64))))
def Γ25 : Gam := []
def qrB : Nm := ⟨[true, false, false, true, true], [], false⟩
theorem qEz : qrB.zero = false := rfl
theorem qJ3 : qrB.fix = [] := rfl
theorem qOO : qrB.keep = [true, false, false, true, true] := rfl
def qxq : Nm := ⟨[false, false, false, true], [], false⟩
theorem qEU : qxq.zero = false := rfl
theorem qML : qxq.fix = [] := rfl
theorem qDw : qxq.keep = [false, false, false, true] := rfl
def qkh : Nat → Tree := fun _ => .done
def qsM : Nat → Nm := fun i => if i = 3 then qrB else ⟨[], [], false⟩
def qo0 : Nat → Option Jn := fun _ => none
def qpJ : Nat → Option Nm := fun i => if i = 0 then some qxq else none
def ql1 : Nat → Option Nm := fun _ => none
theorem p25 : qj qkh (Tryz.f25.body.getD .skip) = true := by kernel_rfl
def T25 (N : Nat) : Tab := { tr := qkh, lp := qsM, ex := qpJ, rg := ql1, jn := qo0, fuel := N }
theorem qL6 (N : Nat) : (T25 N).pins = false := rfl
theorem zaP (N : Nat) : qk Tryz.prog (T25 N) := qp fun _ => rfl
theorem qGl (N : Nat) (i : Nat) : (T25 N).tr i = qkh i := rfl
theorem qCZ (N : Nat) (i : Nat) : (T25 N).lp i = qsM i := rfl
theorem qAz (N : Nat) (i : Nat) : (T25 N).ex i = qpJ i := rfl
theorem qNR (N : Nat) (i : Nat) : (T25 N).rg i = ql1 i := rfl
theorem qN7 (N : Nat) (i : Nat) : (T25 N).jn i = qo0 i := rfl
theorem qJx (N : Nat) : (T25 N).fuel = N := rfl
noncomputable def qTm : Code := cut [true, true, false, true, true, true] (Tryz.f25.body.getD .skip)
theorem qVY {N : Nat} {Q : X → St → Option (qb [i25])} {e : List LV} {h : List Blk} : qf tt Γ25 (T25 N) qTm Q ⟨e, h⟩ = qf tt Γ25 (T25 N) (cut [true, true, false, true, true, true] (Tryz.f25.body.getD .skip)) Q ⟨e, h⟩ := rfl
theorem q95 (N : Nat) (v1 : List (Val (.int .i64))) {k0 : (List (Val (.int .i64))) → Option (qb [i25])} {Q : X → St → Option (qb [i25])} {c : Code} (hc : c = qTm) (hret : ∀ st, Q .ret st = qE tt true [i25] [.tmp 2] st) (h0 : ∀ (v4 : List (Val (.int .i64))), Q (.exit 0) ⟨[u, u, u, .one (.own 0), u, u, u, u, u, u, u, u, u, u, u, u, u, u, u, u, u, u], [.row 3 (.int .i64) v4 true true 0]⟩ = k0 v4) : ∀ (n : Nat) (v2 : Int) (v3 : List (Val (.int .i64))), qF (qf tt Γ25 (T25 N) c) false qrB Q n ⟨[.one (.sl 3 (.int .i64) v1 1), u, u, .one (.own 0), .one (.int .i64 v2), u, u, u, u, u, u, u, u, u, u, u, u, u, u, u, u, u], [.row 3 (.int .i64) v3 true true 0]⟩ = qjI N v1 k0 n v2 v3 := by
  subst hc; intro n; induction n with
  | zero => intros; rfl
  | succ n ih =>
    intro v2 v3
    rw [qM, qVY, qjI]; unfold Tryz.f25
    simp (maxSteps := 10000000) -implicitDefEqProofs [qGl, qkh, qCZ, qsM, qAz, qpJ, qNR, ql1, qN7, qo0, qJx, qL6, qJ3, qOO, qEz, qML, qDw, qEU, hret, h0, ih]
theorem q7A (N : Nat) (v0 : List (Val (.int .i64))) : qf tt Γ25 (T25 N) (Tryz.f25.body.getD .skip) (qm tt true [i25] [.tmp 2]) (qq [i25] 22 (v0, ())) = m25 N v0 := by
  unfold Tryz.f25
  simp (maxSteps := 10000000) -implicitDefEqProofs [qGl, qkh, qCZ, qsM, qAz, qpJ, qNR, ql1, qN7, qo0, qJx, qL6, qJ3, qOO, qEz, qML, qDw, qEU]
  rewrite [q95 (k0 := (fun (v5 : List (Val (.int .i64))) => some (v5, ()))) N _ ?_ ?_ ?_]
  · rewrite [m25]; first | rfl | simp (maxSteps := 10000000) -implicitDefEqProofs []
  · rfl
  · intro; simp only [qK, qJ, qL, qC]
  · intro v5; simp (maxSteps := 10000000) -implicitDefEqProofs [qGl, qkh, qCZ, qsM, qAz, qpJ, qNR, ql1, qN7, qo0, qJx, qL6, qJ3, qOO, qEz, qML, qDw, qEU]
def g25 : G := { ps := [i25], rs := [i25], dp := true, pre := fun x => qyS x.1, fn := fun x => (qHa x.1, ()) }
theorem e25 (x : List (Val (.int .i64))) (h : qyS x) : ∃ N, m25 N x = some (qHa x, ()) := ⟨List.length x + 1, by
  rw [m25, qe (qg0 h.1), Int.toNat_natCast]
  refine qlR (F := fun n i s => qjI _ x _ n i s) (k := fun s => some (s, ())) (qc (.int .i64)) h.1 (fun n i s hi hl => ?_) (fun n i s hi => ?_) _ (Nat.lt_succ_self _)
  · rw [qjI, qn (by omega), qe (by omega), qG hi, qe (by omega), qe (by omega)]
    rfl
  · rw [qjI, ql (by omega)]⟩
theorem s25 : Sound Tryz.prog 25 g25 := qt (tt := tt) (Γ := Γ25) hT qo hm (fn := Tryz.f25) Tryz.func25 (c := Tryz.f25.body.getD .skip) (by kernel_rfl) (by kernel_rfl) fun x hx => by
  obtain ⟨N, h⟩ := e25 x.1 hx
  exact ⟨T25 N, p25, qw _, zaP N, (q7A N x.1).trans h⟩
def qsU (x : Val qR) : Val qa := x
def qt4 (x : Val qR) : Prop := Bd qR x
noncomputable def qy1 (N : Nat) (v0 : Val qR) : Option (qb [qi]) := chk (qyS (v0.1 : List (Val (.int .i64)))) (some ((((qHa (v0.1 : List (Val (.int .i64)))) : List (Val (.int .i64))), (v0.2.1 : Int), (v0.2.2 : Bool)), ()))
def qDo : Gam := [(25, g25)]
theorem q89 : Gam.get qDo 25 = some g25 := rfl
def qzd : Nat → Tree := fun _ => .done
def qB8 : Nat → Nm := fun _ => ⟨[], [], false⟩
def qGs : Nat → Option Jn := fun _ => none
def qJX : Nat → Option Nm := fun _ => none
def qN4 : Nat → Option Nm := fun _ => none
theorem q5I : qj qzd (Tryz.f179.body.getD .skip) = true := by kernel_rfl
def qdW (N : Nat) : Tab := { tr := qzd, lp := qB8, ex := qJX, rg := qN4, jn := qGs, fuel := N }
theorem zb3 (N : Nat) : (qdW N).pins = false := rfl
theorem zcx (N : Nat) : qk Tryz.prog (qdW N) := qp fun _ => rfl
theorem q1g (N : Nat) (i : Nat) : (qdW N).tr i = qzd i := rfl
theorem qZ7 (N : Nat) (i : Nat) : (qdW N).lp i = qB8 i := rfl
theorem qXR (N : Nat) (i : Nat) : (qdW N).ex i = qJX i := rfl
theorem qYc (N : Nat) (i : Nat) : (qdW N).rg i = qN4 i := rfl
theorem q5P (N : Nat) (i : Nat) : (qdW N).jn i = qGs i := rfl
theorem zcA (N : Nat) : (qdW N).fuel = N := rfl
theorem zeT (N : Nat) (v0 : Val qR) : qf tt qDo (qdW N) (Tryz.f179.body.getD .skip) (qm tt true [qi] [.cell 2 108]) (qq [qgQ] 15 (v0, ())) = qy1 N v0 := by
  rw [qy1]; unfold Tryz.f179
  simp (maxSteps := 10000000) -implicitDefEqProofs [q1g, qzd, qZ7, qB8, qXR, qJX, qYc, qN4, q5P, qGs, zcA, zb3, q89, g25]
  try rfl
def qka : G := { ps := [qgQ], rs := [qi], dp := true, pre := fun x => qt4 x.1, fn := fun x => (qsU x.1, ()) }
theorem zfv (x : Val qR) (h : qt4 x) : ∃ N, qy1 N x = some (qsU x, ()) := ⟨0, by
  obtain ⟨s0, s1, s2⟩ := h
  rw [qy1, qe (show qyS _ from s0)]
  rfl⟩
theorem q2S : Sound Tryz.prog 179 qka := qt (tt := tt) (Γ := qDo) hT (qg s25 qo) hm (fn := Tryz.f179) Tryz.func179 (c := Tryz.f179.body.getD .skip) (by kernel_rfl) (by kernel_rfl) fun x hx => by
  obtain ⟨N, h⟩ := zfv x.1 hx
  exact ⟨qdW N, q5I, qw _, zcx N, (zeT N x.1).trans h⟩
def qLe (x : List (Val qR)) : List (Val qa) := x
def qtX (x : List (Val qR)) : Prop := Bd (.slice 101 qR) x
noncomputable def qg4 (N : Nat) (v1 : List (Val qR)) (k0 : (List (Val qa)) → Option (qb [i31])) : Nat → Int → (List (Val qa)) → Option (qb [i31])
  | 0, _, _ => none
  | n + 1, v2, v3 => bif (decide (v2 < (v1.length : Int))) then (chk (0 ≤ v2 ∧ v2 < (v1.length : Int)) (chk (qt4 (v1.getD v2.toNat (qc qR))) (chk (0 ≤ v2 ∧ v2 < (v3.length : Int)) (chk (v2.toNat < v3.length) (qg4 N v1 k0 n (IntKind.i64.wrap (v2 + (1 : Int))) (v3.set v2.toNat (((qsU (v1.getD v2.toNat (qc qR))).1 : List (Val (.int .i64))), (((qsU (v1.getD v2.toNat (qc qR))).2).1 : Int), (((qsU (v1.getD v2.toNat (qc qR))).2).2 : Bool)))))))) else (k0 v3)
noncomputable def qwz (N : Nat) (v0 : List (Val qR)) : Option (qb [i31]) := chk (0 ≤ (v0.length : Int) ∧ (v0.length : Int) ≤ (v0.length : Int) ∧ (v0.length : Int) ≤ 1048576) (qg4 N v0 (fun (v5 : List (Val qa)) => some (v5, ())) N (0 : Int) (List.replicate (v0.length : Int).toNat (qc qa)))
def qkW : Gam := [(179, qka)]
theorem qF5 : Gam.get qkW 179 = some qka := rfl
def qtw : Nm := ⟨[true, false, false, true, true], [], false⟩
theorem qGB : qtw.zero = false := rfl
theorem qB9 : qtw.fix = [] := rfl
theorem qDf : qtw.keep = [true, false, false, true, true] := rfl
def qxD : Nm := ⟨[false, false, false, true], [], false⟩
theorem qBF : qxD.zero = false := rfl
theorem qKj : qxD.fix = [] := rfl
theorem qFd : qxD.keep = [false, false, false, true] := rfl
def qk0 : Nat → Tree := fun _ => .done
def qoL : Nat → Nm := fun i => if i = 3 then qtw else ⟨[], [], false⟩
def qrr : Nat → Option Jn := fun _ => none
def qrj : Nat → Option Nm := fun i => if i = 0 then some qxD else none
def qmW : Nat → Option Nm := fun _ => none
theorem qYK : qj qk0 (Tryz.f110.body.getD .skip) = true := by kernel_rfl
def qcm (N : Nat) : Tab := { tr := qk0, lp := qoL, ex := qrj, rg := qmW, jn := qrr, fuel := N }
theorem qFw (N : Nat) : (qcm N).pins = false := rfl
theorem q3g (N : Nat) : qk Tryz.prog (qcm N) := qp fun _ => rfl
theorem qGp (N : Nat) (i : Nat) : (qcm N).tr i = qk0 i := rfl
theorem qOE (N : Nat) (i : Nat) : (qcm N).lp i = qoL i := rfl
theorem qE9 (N : Nat) (i : Nat) : (qcm N).ex i = qrj i := rfl
theorem qPD (N : Nat) (i : Nat) : (qcm N).rg i = qmW i := rfl
theorem qJF (N : Nat) (i : Nat) : (qcm N).jn i = qrr i := rfl
theorem qIG (N : Nat) : (qcm N).fuel = N := rfl
noncomputable def qR4 : Code := cut [true, true, false, true, true, true] (Tryz.f110.body.getD .skip)
theorem q7c {N : Nat} {Q : X → St → Option (qb [i31])} {e : List LV} {h : List Blk} : qf tt qkW (qcm N) qR4 Q ⟨e, h⟩ = qf tt qkW (qcm N) (cut [true, true, false, true, true, true] (Tryz.f110.body.getD .skip)) Q ⟨e, h⟩ := rfl
theorem q3W (N : Nat) (v1 : List (Val qR)) {k0 : (List (Val qa)) → Option (qb [i31])} {Q : X → St → Option (qb [i31])} {c : Code} (hc : c = qR4) (hret : ∀ st, Q .ret st = qE tt true [i31] [.tmp 2] st) (h0 : ∀ (v4 : List (Val qa)), Q (.exit 0) ⟨[u, u, u, .one (.own 0), u, u, u, u, u, u, u, u, u, u, u, u, u, u, u, u, u, u, u], [.row 108 qa v4 true true 0]⟩ = k0 v4) : ∀ (n : Nat) (v2 : Int) (v3 : List (Val qa)), qF (qf tt qkW (qcm N) c) false qtw Q n ⟨[.one (.sl 101 qR v1 1), u, u, .one (.own 0), .one (.int .i64 v2), u, u, u, u, u, u, u, u, u, u, u, u, u, u, u, u, u, u], [.row 108 qa v3 true true 0]⟩ = qg4 N v1 k0 n v2 v3 := by
  subst hc; intro n; induction n with
  | zero => intros; rfl
  | succ n ih =>
    intro v2 v3
    rw [qM, q7c, qg4]; unfold Tryz.f110
    simp (maxSteps := 10000000) -implicitDefEqProofs [qGp, qk0, qOE, qoL, qE9, qrj, qPD, qmW, qJF, qrr, qIG, qFw, qB9, qDf, qGB, qKj, qFd, qBF, qF5, qka, hret, h0, ih]
theorem zb9 (N : Nat) (v0 : List (Val qR)) : qf tt qkW (qcm N) (Tryz.f110.body.getD .skip) (qm tt true [i31] [.tmp 2]) (qq [i22] 23 (v0, ())) = qwz N v0 := by
  unfold Tryz.f110
  simp (maxSteps := 10000000) -implicitDefEqProofs [qGp, qk0, qOE, qoL, qE9, qrj, qPD, qmW, qJF, qrr, qIG, qFw, qB9, qDf, qGB, qKj, qFd, qBF, qF5, qka]
  rewrite [q3W (k0 := (fun (v5 : List (Val qa)) => some (v5, ()))) N _ ?_ ?_ ?_]
  · rewrite [qwz]; first | rfl | simp (maxSteps := 10000000) -implicitDefEqProofs []
  · rfl
  · intro; simp only [qK, qJ, qL, qC]
  · intro v5; simp (maxSteps := 10000000) -implicitDefEqProofs [qGp, qk0, qOE, qoL, qE9, qrj, qPD, qmW, qJF, qrr, qIG, qFw, qB9, qDf, qGB, qKj, qFd, qBF, qF5, qka]
def qtW : G := { ps := [i22], rs := [i31], dp := true, pre := fun x => qtX x.1, fn := fun x => (qLe x.1, ()) }
theorem qYI (x : List (Val qR)) (h : qtX x) : ∃ N, qwz N x = some (qLe x, ()) := ⟨List.length x + 1, by
  rw [qwz, qe (qg0 h.1), Int.toNat_natCast]
  refine qlR (F := fun n i s => qg4 _ x _ n i s) (k := fun s => some (s, ())) (qc qa) h.1 (fun n i s hi hl => ?_) (fun n i s hi => ?_) _ (Nat.lt_succ_self _)
  · rw [qg4, qn (by omega), qe (by omega), qe (show qt4 _ from by rw [qG hi]; exact h.2 _ (List.getElem_mem hi)), qG hi, qe (by omega), qe (by omega)]
    rfl
  · rw [qg4, ql (by omega)]⟩
theorem q0K : Sound Tryz.prog 110 qtW := qt (tt := tt) (Γ := qkW) hT (qg q2S qo) hm (fn := Tryz.f110) Tryz.func110 (c := Tryz.f110.body.getD .skip) (by kernel_rfl) (by kernel_rfl) fun x hx => by
  obtain ⟨N, h⟩ := qYI x.1 hx
  exact ⟨qcm N, qYK, qw _, q3g N, (zb9 N x.1).trans h⟩
def qvO (x : Val Y24) : Val Y33 := x
def qwT (x : Val Y24) : Prop := Bd Y24 x
noncomputable def m24 (N : Nat) (v0 : Val Y24) : Option (qb [i33]) := chk (qtX (v0.2 : List (Val qR))) (some (((v0.1 : Int), ((qLe (v0.2 : List (Val qR))) : List (Val qa))), ()))
def Γ24 : Gam := [(110, qtW)]
theorem q5u : Gam.get Γ24 110 = some qtW := rfl
def qxA : Nat → Tree := fun _ => .done
def qGU : Nat → Nm := fun _ => ⟨[], [], false⟩
def qKB : Nat → Option Jn := fun _ => none
def qMG : Nat → Option Nm := fun _ => none
def qAS : Nat → Option Nm := fun _ => none
theorem p24 : qj qxA (Tryz.f24.body.getD .skip) = true := by kernel_rfl
def T24 (N : Nat) : Tab := { tr := qxA, lp := qGU, ex := qMG, rg := qAS, jn := qKB, fuel := N }
theorem q6E (N : Nat) : (T24 N).pins = false := rfl
theorem qYm (N : Nat) : qk Tryz.prog (T24 N) := qp fun _ => rfl
theorem qYZ (N : Nat) (i : Nat) : (T24 N).tr i = qxA i := rfl
theorem zdJ (N : Nat) (i : Nat) : (T24 N).lp i = qGU i := rfl
theorem qW2 (N : Nat) (i : Nat) : (T24 N).ex i = qMG i := rfl
theorem zaS (N : Nat) (i : Nat) : (T24 N).rg i = qAS i := rfl
theorem q2P (N : Nat) (i : Nat) : (T24 N).jn i = qKB i := rfl
theorem q4S (N : Nat) : (T24 N).fuel = N := rfl
theorem q8O (N : Nat) (v0 : Val Y24) : qf tt Γ24 (T24 N) (Tryz.f24.body.getD .skip) (qm tt true [i33] [.cell 2 33]) (qq [i24] 12 (v0, ())) = m24 N v0 := by
  rw [m24]; unfold Tryz.f24
  simp (maxSteps := 10000000) -implicitDefEqProofs [qYZ, qxA, zdJ, qGU, qW2, qMG, zaS, qAS, q2P, qKB, q4S, q6E, q5u, qtW]
  try rfl
def g24 : G := { ps := [i24], rs := [i33], dp := true, pre := fun x => qwT x.1, fn := fun x => (qvO x.1, ()) }
theorem e24 (x : Val Y24) (h : qwT x) : ∃ N, m24 N x = some (qvO x, ()) := ⟨0, by
  obtain ⟨s0, s1⟩ := h
  rw [m24, qe (show qtX _ from s1)]
  rfl⟩
theorem s24 : Sound Tryz.prog 24 g24 := qt (tt := tt) (Γ := Γ24) hT (qg q0K qo) hm (fn := Tryz.f24) Tryz.func24 (c := Tryz.f24.body.getD .skip) (by kernel_rfl) (by kernel_rfl) fun x hx => by
  obtain ⟨N, h⟩ := e24 x.1 hx
  exact ⟨T24 N, p24, qw _, qYm N, (q8O N x.1).trans h⟩
def qLY (x : List (Val Y24)) : List (Val Y33) := x
def qwh (x : List (Val Y24)) : Prop := Bd (.slice 24 Y24) x
noncomputable def qh9 (N : Nat) (v1 : List (Val Y24)) (k0 : (List (Val Y33)) → Option (qb [i48])) : Nat → Int → (List (Val Y33)) → Option (qb [i48])
  | 0, _, _ => none
  | n + 1, v2, v3 => bif (decide (v2 < (v1.length : Int))) then (chk (0 ≤ v2 ∧ v2 < (v1.length : Int)) (chk (qwT (v1.getD v2.toNat (qc Y24))) (chk (0 ≤ v2 ∧ v2 < (v3.length : Int)) (chk (v2.toNat < v3.length) (qh9 N v1 k0 n (IntKind.i64.wrap (v2 + (1 : Int))) (v3.set v2.toNat (((qvO (v1.getD v2.toNat (qc Y24))).1 : Int), ((qvO (v1.getD v2.toNat (qc Y24))).2 : List (Val qa))))))))) else (k0 v3)
noncomputable def qvu (N : Nat) (v0 : List (Val Y24)) : Option (qb [i48]) := chk (0 ≤ (v0.length : Int) ∧ (v0.length : Int) ≤ (v0.length : Int) ∧ (v0.length : Int) ≤ 1048576) (qh9 N v0 (fun (v5 : List (Val Y33)) => some (v5, ())) N (0 : Int) (List.replicate (v0.length : Int).toNat (qc Y33)))
def qlG : Gam := [(24, g24)]
theorem qGq : Gam.get qlG 24 = some g24 := rfl
def qmQ : Nm := ⟨[true, false, false, true, true], [], false⟩
theorem qIk : qmQ.zero = false := rfl
theorem qAX : qmQ.fix = [] := rfl
theorem qDK : qmQ.keep = [true, false, false, true, true] := rfl
def qxH : Nm := ⟨[false, false, false, true], [], false⟩
theorem qIN : qxH.zero = false := rfl
theorem qGy : qxH.fix = [] := rfl
theorem qDE : qxH.keep = [false, false, false, true] := rfl
def qjS : Nat → Tree := fun _ => .done
def qpi : Nat → Nm := fun i => if i = 3 then qmQ else ⟨[], [], false⟩
def qrZ : Nat → Option Jn := fun _ => none
def qq2 : Nat → Option Nm := fun i => if i = 0 then some qxH else none
def qph : Nat → Option Nm := fun _ => none
theorem qXm : qj qjS (Tryz.f123.body.getD .skip) = true := by kernel_rfl
def qcs (N : Nat) : Tab := { tr := qjS, lp := qpi, ex := qq2, rg := qph, jn := qrZ, fuel := N }
theorem qCQ (N : Nat) : (qcs N).pins = false := rfl
theorem qXg (N : Nat) : qk Tryz.prog (qcs N) := qp fun _ => rfl
theorem qJc (N : Nat) (i : Nat) : (qcs N).tr i = qjS i := rfl
theorem qC9 (N : Nat) (i : Nat) : (qcs N).lp i = qpi i := rfl
theorem qIn (N : Nat) (i : Nat) : (qcs N).ex i = qq2 i := rfl
theorem qPl (N : Nat) (i : Nat) : (qcs N).rg i = qph i := rfl
theorem qFa (N : Nat) (i : Nat) : (qcs N).jn i = qrZ i := rfl
theorem qJR (N : Nat) : (qcs N).fuel = N := rfl
noncomputable def qRd : Code := cut [true, true, false, true, true, true] (Tryz.f123.body.getD .skip)
theorem q6b {N : Nat} {Q : X → St → Option (qb [i48])} {e : List LV} {h : List Blk} : qf tt qlG (qcs N) qRd Q ⟨e, h⟩ = qf tt qlG (qcs N) (cut [true, true, false, true, true, true] (Tryz.f123.body.getD .skip)) Q ⟨e, h⟩ := rfl
theorem qVA (N : Nat) (v1 : List (Val Y24)) {k0 : (List (Val Y33)) → Option (qb [i48])} {Q : X → St → Option (qb [i48])} {c : Code} (hc : c = qRd) (hret : ∀ st, Q .ret st = qE tt true [i48] [.tmp 2] st) (h0 : ∀ (v4 : List (Val Y33)), Q (.exit 0) ⟨[u, u, u, .one (.own 0), u, u, u, u, u, u, u, u, u, u, u, u, u, u, u, u, u, u, u], [.row 33 Y33 v4 true true 0]⟩ = k0 v4) : ∀ (n : Nat) (v2 : Int) (v3 : List (Val Y33)), qF (qf tt qlG (qcs N) c) false qmQ Q n ⟨[.one (.sl 24 Y24 v1 1), u, u, .one (.own 0), .one (.int .i64 v2), u, u, u, u, u, u, u, u, u, u, u, u, u, u, u, u, u, u], [.row 33 Y33 v3 true true 0]⟩ = qh9 N v1 k0 n v2 v3 := by
  subst hc; intro n; induction n with
  | zero => intros; rfl
  | succ n ih =>
    intro v2 v3
    rw [qM, q6b, qh9]; unfold Tryz.f123
    simp (maxSteps := 10000000) -implicitDefEqProofs [qJc, qjS, qC9, qpi, qIn, qq2, qPl, qph, qFa, qrZ, qJR, qCQ, qAX, qDK, qIk, qGy, qDE, qIN, qGq, g24, hret, h0, ih]
theorem q7j (N : Nat) (v0 : List (Val Y24)) : qf tt qlG (qcs N) (Tryz.f123.body.getD .skip) (qm tt true [i48] [.tmp 2]) (qq [i40] 23 (v0, ())) = qvu N v0 := by
  unfold Tryz.f123
  simp (maxSteps := 10000000) -implicitDefEqProofs [qJc, qjS, qC9, qpi, qIn, qq2, qPl, qph, qFa, qrZ, qJR, qCQ, qAX, qDK, qIk, qGy, qDE, qIN, qGq, g24]
  rewrite [qVA (k0 := (fun (v5 : List (Val Y33)) => some (v5, ()))) N _ ?_ ?_ ?_]
  · rewrite [qvu]; first | rfl | simp (maxSteps := 10000000) -implicitDefEqProofs []
  · rfl
  · intro; simp only [qK, qJ, qL, qC]
  · intro v5; simp (maxSteps := 10000000) -implicitDefEqProofs [qJc, qjS, qC9, qpi, qIn, qq2, qPl, qph, qFa, qrZ, qJR, qCQ, qAX, qDK, qIk, qGy, qDE, qIN, qGq, g24]
def qwp : G := { ps := [i40], rs := [i48], dp := true, pre := fun x => qwh x.1, fn := fun x => (qLY x.1, ()) }
theorem q3u (x : List (Val Y24)) (h : qwh x) : ∃ N, qvu N x = some (qLY x, ()) := ⟨List.length x + 1, by
  rw [qvu, qe (qg0 h.1), Int.toNat_natCast]
  refine qlR (F := fun n i s => qh9 _ x _ n i s) (k := fun s => some (s, ())) (qc Y33) h.1 (fun n i s hi hl => ?_) (fun n i s hi => ?_) _ (Nat.lt_succ_self _)
  · rw [qh9, qn (by omega), qe (by omega), qe (show qwT _ from by rw [qG hi]; exact h.2 _ (List.getElem_mem hi)), qG hi, qe (by omega), qe (by omega)]
    rfl
  · rw [qh9, ql (by omega)]⟩
theorem q0g : Sound Tryz.prog 123 qwp := qt (tt := tt) (Γ := qlG) hT (qg s24 qo) hm (fn := Tryz.f123) Tryz.func123 (c := Tryz.f123.body.getD .skip) (by kernel_rfl) (by kernel_rfl) fun x hx => by
  obtain ⟨N, h⟩ := q3u x.1 hx
  exact ⟨qcs N, qXm, qw _, qXg N, (q7j N x.1).trans h⟩
def qd (x : Val Y42) : Val Y50 := x
def qal (x : Val Y42) : Prop := Bd Y42 x
noncomputable def m33 (N : Nat) (v0 : Val Y42) : Option (qb [i50]) := chk (qwh (v0.2 : List (Val Y24))) (some (((v0.1 : Int), ((qLY (v0.2 : List (Val Y24))) : List (Val Y33))), ()))
def Γ33 : Gam := [(123, qwp)]
theorem q9O : Gam.get Γ33 123 = some qwp := rfl
def qxp : Nat → Tree := fun _ => .done
def qIt : Nat → Nm := fun _ => ⟨[], [], false⟩
def qBi : Nat → Option Jn := fun _ => none
def qHl : Nat → Option Nm := fun _ => none
def qPy : Nat → Option Nm := fun _ => none
theorem p33 : qj qxp (Tryz.f33.body.getD .skip) = true := by kernel_rfl
def T33 (N : Nat) : Tab := { tr := qxp, lp := qIt, ex := qHl, rg := qPy, jn := qBi, fuel := N }
theorem q9Q (N : Nat) : (T33 N).pins = false := rfl
theorem q3T (N : Nat) : qk Tryz.prog (T33 N) := qp fun _ => rfl
theorem qXa (N : Nat) (i : Nat) : (T33 N).tr i = qxp i := rfl
theorem q61 (N : Nat) (i : Nat) : (T33 N).lp i = qIt i := rfl
theorem q3t (N : Nat) (i : Nat) : (T33 N).ex i = qHl i := rfl
theorem q0F (N : Nat) (i : Nat) : (T33 N).rg i = qPy i := rfl
theorem qZw (N : Nat) (i : Nat) : (T33 N).jn i = qBi i := rfl
theorem q5G (N : Nat) : (T33 N).fuel = N := rfl
theorem zcz (N : Nat) (v0 : Val Y42) : qf tt Γ33 (T33 N) (Tryz.f33.body.getD .skip) (qm tt true [i50] [.cell 2 50]) (qq [i42] 12 (v0, ())) = m33 N v0 := by
  rw [m33]; unfold Tryz.f33
  simp (maxSteps := 10000000) -implicitDefEqProofs [qXa, qxp, q61, qIt, q3t, qHl, q0F, qPy, qZw, qBi, q5G, q9Q, q9O, qwp]
  try rfl
def g33 : G := { ps := [i42], rs := [i50], dp := true, pre := fun x => qal x.1, fn := fun x => (qd x.1, ()) }
theorem e33 (x : Val Y42) (h : qal x) : ∃ N, m33 N x = some (qd x, ()) := ⟨0, by
  obtain ⟨s0, s1⟩ := h
  rw [m33, qe (show qwh _ from s1)]
  rfl⟩
theorem s33 : Sound Tryz.prog 33 g33 := qt (tt := tt) (Γ := Γ33) hT (qg q0g qo) hm (fn := Tryz.f33) Tryz.func33 (c := Tryz.f33.body.getD .skip) (by kernel_rfl) (by kernel_rfl) fun x hx => by
  obtain ⟨N, h⟩ := e33 x.1 hx
  exact ⟨T33 N, p33, qw _, q3T N, (zcz N x.1).trans h⟩
def qm7 (x y : List (Val (.int .i64))) : Bool := eqV (.slice 3 (.int .i64)) x y
def qvc (x _ : List (Val (.int .i64))) : Prop := Bd (.slice 3 (.int .i64)) x
noncomputable def qia (N : Nat) (v2 : List (Val (.int .i64))) (v3 : List (Val (.int .i64))) (k0 : Unit → Option (qb [i4])) : Nat → Int → Option (qb [i4])
  | 0, _ => none
  | n + 1, v4 => bif (decide (v4 < (v2.length : Int))) then (chk (0 ≤ v4 ∧ v4 < (v2.length : Int)) (chk (0 ≤ v4 ∧ v4 < (v3.length : Int)) (bif (!(decide (((v2.getD v4.toNat (qc (.int .i64))) : Int) = ((v3.getD v4.toNat (qc (.int .i64))) : Int)))) then (some (false, ())) else (qia N v2 v3 k0 n (IntKind.i64.wrap (v4 + (1 : Int))))))) else (k0 ())
noncomputable def m29 (N : Nat) (v0 : List (Val (.int .i64))) (v1 : List (Val (.int .i64))) : Option (qb [i4]) := bif (!(decide ((v0.length : Int) = (v1.length : Int)))) then (some (false, ())) else (qia N v0 v1 (fun (_ : Unit) => some (true, ())) N (0 : Int))
def Γ29 : Gam := []
def qrG : Nm := ⟨[true, true, false, false, false, true], [], false⟩
theorem qGv : qrG.zero = false := rfl
theorem qEs : qrG.fix = [] := rfl
theorem qAD : qrG.keep = [true, true, false, false, false, true] := rfl
def qyv : Nm := ⟨[], [], false⟩
theorem qDS : qyv.zero = false := rfl
theorem qKd : qyv.fix = [] := rfl
theorem qQq : qyv.keep = [] := rfl
def qkv : Nat → Tree := fun i => if i = 6 then .quiet 0 (.quiet 1 (.quiet 2 (.quiet 3 (.quiet 4 (.quiet 5 (.quiet 6 (.quiet 7 (.quiet 8 .done)))))))) else .done
def qm3 : Nat → Nm := fun i => if i = 4 then qrG else ⟨[], [], false⟩
def qsY : Nat → Option Jn := fun _ => none
def qmF : Nat → Option Nm := fun i => if i = 0 then some qyv else none
def qsS : Nat → Option Nm := fun _ => none
theorem p29 : qj qkv (Tryz.f29.body.getD .skip) = true := by kernel_rfl
def T29 (N : Nat) : Tab := { tr := qkv, lp := qm3, ex := qmF, rg := qsS, jn := qsY, fuel := N }
theorem qMy (N : Nat) : (T29 N).pins = false := rfl
theorem zfq (N : Nat) : qk Tryz.prog (T29 N) := qp fun _ => rfl
theorem qGm (N : Nat) (i : Nat) : (T29 N).tr i = qkv i := rfl
theorem qIy (N : Nat) (i : Nat) : (T29 N).lp i = qm3 i := rfl
theorem qHJ (N : Nat) (i : Nat) : (T29 N).ex i = qmF i := rfl
theorem qOt (N : Nat) (i : Nat) : (T29 N).rg i = qsS i := rfl
theorem qJd (N : Nat) (i : Nat) : (T29 N).jn i = qsY i := rfl
theorem qFF (N : Nat) : (T29 N).fuel = N := rfl
noncomputable def qRQ : Code := cut [true, true, false, true, true, true] (Tryz.f29.body.getD .skip)
theorem qWh {N : Nat} {Q : X → St → Option (qb [i4])} {e : List LV} {h : List Blk} : qf tt Γ29 (T29 N) qRQ Q ⟨e, h⟩ = qf tt Γ29 (T29 N) (cut [true, true, false, true, true, true] (Tryz.f29.body.getD .skip)) Q ⟨e, h⟩ := rfl
theorem zcQ (N : Nat) (v2 : List (Val (.int .i64))) (v3 : List (Val (.int .i64))) {k0 : Unit → Option (qb [i4])} {Q : X → St → Option (qb [i4])} {c : Code} (hc : c = qRQ) (hret : ∀ st, Q .ret st = qE tt true [i4] [.tmp 4] st) (h0 : Q (.exit 0) ⟨[u, u, u, u, u, u, u, u, u, u, u, u, u, u, u, u, u, u, u, u, u, u, u, u, u, u], []⟩ = k0 ()) : ∀ (n : Nat) (v4 : Int), qF (qf tt Γ29 (T29 N) c) false qrG Q n ⟨[.one (.sl 3 (.int .i64) v2 0), .one (.sl 3 (.int .i64) v3 0), u, u, u, .one (.int .i64 v4), u, u, u, u, u, u, u, u, u, u, u, u, u, u, u, u, u, u, u, u], []⟩ = qia N v2 v3 k0 n v4 := by
  subst hc; intro n; induction n with
  | zero => intros; rfl
  | succ n ih =>
    intro v4
    rw [qM, qWh, qia]; unfold Tryz.f29
    simp (maxSteps := 10000000) -implicitDefEqProofs [qGm, qkv, qIy, qm3, qHJ, qmF, qOt, qsS, qJd, qsY, qFF, qMy, qEs, qAD, qGv, qKd, qQq, qDS, hret, h0, ih]
theorem qX0 (N : Nat) (v0 : List (Val (.int .i64))) (v1 : List (Val (.int .i64))) : qf tt Γ29 (T29 N) (Tryz.f29.body.getD .skip) (qm tt true [i4] [.tmp 4]) (qq [i25, i25] 26 (v0, v1, ())) = m29 N v0 v1 := by
  unfold Tryz.f29
  simp (maxSteps := 10000000) -implicitDefEqProofs [qGm, qkv, qIy, qm3, qHJ, qmF, qOt, qsS, qJd, qsY, qFF, qMy, qEs, qAD, qGv, qKd, qQq, qDS]
  rewrite [zcQ (k0 := (fun (_ : Unit) => some (true, ()))) N _ _ ?_ ?_ ?_]
  · rewrite [m29]; first | rfl | simp (maxSteps := 10000000) -implicitDefEqProofs []
  · rfl
  · intro; simp only [qK, qJ, qL, qC]
  · simp (maxSteps := 10000000) -implicitDefEqProofs [qGm, qkv, qIy, qm3, qHJ, qmF, qOt, qsS, qJd, qsY, qFF, qMy, qEs, qAD, qGv, qKd, qQq, qDS]
def g29 : G := { ps := [i25, i25], rs := [i4], dp := true, pre := fun x => qvc x.1 x.2.1, fn := fun x => (qm7 x.1 x.2.1, ()) }
theorem e29 (x y : List (Val (.int .i64))) (h : qvc x y) : ∃ N, m29 N x y = some (qm7 x y, ()) := ⟨List.length x + 1, by
  rw [m29, qaP]
  rw [qm7, eqS]
  by_cases c : List.length x = List.length y
  · rw [qn (by omega)]
    refine (qOw (f := eqV (.int .i64)) (xs := x) (ys := y) (F := fun n i => qia _ x y _ n i) (k := fun _ => some (true, ())) (r := some (false, ())) h.1 c (fun n i hi hi2 => ?_) (fun n i hi => ?_) _ (Nat.lt_succ_self _)).trans qFS
    · rw [qia, qn (by omega), qe (by omega), qe (by omega), qG hi, qG hi2, qaP]
      rfl
    · rw [qia, ql (by omega)]
  · rw [ql (by omega), qwu _ _ c]⟩
theorem s29 : Sound Tryz.prog 29 g29 := qt (tt := tt) (Γ := Γ29) hT qo hm (fn := Tryz.f29) Tryz.func29 (c := Tryz.f29.body.getD .skip) (by kernel_rfl) (by kernel_rfl) fun x hx => by
  obtain ⟨N, h⟩ := e29 x.1 x.2.1 hx
  exact ⟨T29 N, p29, qw _, zfq N, (qX0 N x.1 x.2.1).trans h⟩
def qKY (x y : Val qa) : Bool := eqV qa x y
def qzo (x _ : Val qa) : Prop := Bd qa x
noncomputable def qvi (N : Nat) (v0 : Val qa) (v1 : Val qa) : Option (qb [i4]) := chk (qvc (v0.1 : List (Val (.int .i64))) (v1.1 : List (Val (.int .i64)))) (bif (!((qm7 (v0.1 : List (Val (.int .i64))) (v1.1 : List (Val (.int .i64)))) : Bool)) then (some (false, ())) else (bif (!(decide ((v0.2.1 : Int) = (v1.2.1 : Int)))) then (some (false, ())) else (bif (!((v0.2.2 : Bool) == (v1.2.2 : Bool))) then (some (false, ())) else (some (true, ())))))
def qBr : Gam := [(29, g29)]
theorem q5X : Gam.get qBr 29 = some g29 := rfl
def qyX : Nat → Tree := fun _ => .done
def qNV : Nat → Nm := fun _ => ⟨[], [], false⟩
def qN3 : Nat → Option Jn := fun _ => none
def qOf : Nat → Option Nm := fun _ => none
def qDZ : Nat → Option Nm := fun _ => none
theorem qVW : qj qyX (Tryz.f183.body.getD .skip) = true := by kernel_rfl
def qeK (N : Nat) : Tab := { tr := qyX, lp := qNV, ex := qOf, rg := qDZ, jn := qN3, fuel := N }
theorem q4q (N : Nat) : (qeK N).pins = false := rfl
theorem zeR (N : Nat) : qk Tryz.prog (qeK N) := qp fun _ => rfl
theorem zaf (N : Nat) (i : Nat) : (qeK N).tr i = qyX i := rfl
theorem zaJ (N : Nat) (i : Nat) : (qeK N).lp i = qNV i := rfl
theorem zcT (N : Nat) (i : Nat) : (qeK N).ex i = qOf i := rfl
theorem q8J (N : Nat) (i : Nat) : (qeK N).rg i = qDZ i := rfl
theorem q18 (N : Nat) (i : Nat) : (qeK N).jn i = qN3 i := rfl
theorem qWz (N : Nat) : (qeK N).fuel = N := rfl
theorem qXc (N : Nat) (v0 : Val qa) (v1 : Val qa) : qf tt qBr (qeK N) (Tryz.f183.body.getD .skip) (qm tt true [i4] [.tmp 4]) (qq [qi, qi] 21 (v0, v1, ())) = qvi N v0 v1 := by
  rw [qvi]; unfold Tryz.f183
  simp (maxSteps := 10000000) -implicitDefEqProofs [zaf, qyX, zaJ, qNV, zcT, qOf, q8J, qDZ, q18, qN3, qWz, q4q, q5X, g29]
  try rfl
def qkZ : G := { ps := [qi, qi], rs := [i4], dp := true, pre := fun x => qzo x.1 x.2.1, fn := fun x => (qKY x.1 x.2.1, ()) }
theorem q84 (x y : Val qa) (h : qzo x y) : ∃ N, qvi N x y = some (qKY x y, ()) := ⟨0, by
  obtain ⟨s0, s1, s2⟩ := h
  rw [qvi, qe (show qvc _ _ from s0)]
  obtain ⟨x0, x1, x2⟩ := x
  obtain ⟨y0, y1, y2⟩ := y
  change _ = some ((eqV (.slice 3 (.int .i64)) x0 y0 && (eqV (.int .i64) x1 y1 && eqV .bool x2 y2)), ())
  simp only [qaP]
  show _ = _
  generalize he0 : eqV (.slice 3 (.int .i64)) x0 y0 = e0
  have hd0 : qm7 x0 y0 = e0 := he0
  generalize he1 : eqV (.int .i64) x1 y1 = e1
  have hd1 : decide ((x1 : Int) = y1) = e1 := he1
  generalize he2 : eqV .bool x2 y2 = e2
  have hd2 : ((x2 : Bool) == y2) = e2 := he2
  simp only [hd0, hd1, hd2]
  cases e0 <;> cases e1 <;> cases e2 <;> rfl⟩
theorem q28 : Sound Tryz.prog 183 qkZ := qt (tt := tt) (Γ := qBr) hT (qg s29 qo) hm (fn := Tryz.f183) Tryz.func183 (c := Tryz.f183.body.getD .skip) (by kernel_rfl) (by kernel_rfl) fun x hx => by
  obtain ⟨N, h⟩ := q84 x.1 x.2.1 hx
  exact ⟨qeK N, qVW, qw _, zeR N, (qXc N x.1 x.2.1).trans h⟩
def qtF (x y : List (Val qa)) : Bool := eqV (.slice 108 qa) x y
def quY (x _ : List (Val qa)) : Prop := Bd (.slice 108 qa) x
noncomputable def qhF (N : Nat) (v2 : List (Val qa)) (v3 : List (Val qa)) (k0 : Unit → Option (qb [i4])) : Nat → Int → Option (qb [i4])
  | 0, _ => none
  | n + 1, v4 => bif (decide (v4 < (v2.length : Int))) then (chk (0 ≤ v4 ∧ v4 < (v2.length : Int)) (chk (0 ≤ v4 ∧ v4 < (v3.length : Int)) (chk (qzo (v2.getD v4.toNat (qc qa)) (v3.getD v4.toNat (qc qa))) (bif (!((qKY (v2.getD v4.toNat (qc qa)) (v3.getD v4.toNat (qc qa))) : Bool)) then (some (false, ())) else (qhF N v2 v3 k0 n (IntKind.i64.wrap (v4 + (1 : Int)))))))) else (k0 ())
noncomputable def qz0 (N : Nat) (v0 : List (Val qa)) (v1 : List (Val qa)) : Option (qb [i4]) := bif (!(decide ((v0.length : Int) = (v1.length : Int)))) then (some (false, ())) else (qhF N v0 v1 (fun (_ : Unit) => some (true, ())) N (0 : Int))
def qlM : Gam := [(183, qkZ)]
theorem qFC : Gam.get qlM 183 = some qkZ := rfl
def qrD : Nm := ⟨[true, true, false, false, false, true], [], false⟩
theorem qJ6 : qrD.zero = false := rfl
theorem qOy : qrD.fix = [] := rfl
theorem qIV : qrD.keep = [true, true, false, false, false, true] := rfl
def qt8 : Nm := ⟨[], [], false⟩
theorem qAB : qt8.zero = false := rfl
theorem qGh : qt8.fix = [] := rfl
theorem qEC : qt8.keep = [] := rfl
def qlJ : Nat → Tree := fun i => if i = 6 then .quiet 0 (.quiet 1 (.quiet 2 (.quiet 3 (.quiet 4 (.quiet 5 (.quiet 6 (.quiet 7 (.alt 8 (.quiet 9 .done) .stop)))))))) else .done
def qpy : Nat → Nm := fun i => if i = 4 then qrD else ⟨[], [], false⟩
def qsj : Nat → Option Jn := fun _ => none
def qoS : Nat → Option Nm := fun i => if i = 0 then some qt8 else none
def qpo : Nat → Option Nm := fun _ => none
theorem q8b : qj qlJ (Tryz.f115.body.getD .skip) = true := by kernel_rfl
def qcH (N : Nat) : Tab := { tr := qlJ, lp := qpy, ex := qoS, rg := qpo, jn := qsj, fuel := N }
theorem qLA (N : Nat) : (qcH N).pins = false := rfl
theorem zdr (N : Nat) : qk Tryz.prog (qcH N) := qp fun _ => rfl
theorem qPY (N : Nat) (i : Nat) : (qcH N).tr i = qlJ i := rfl
theorem qLP (N : Nat) (i : Nat) : (qcH N).lp i = qpy i := rfl
theorem qHh (N : Nat) (i : Nat) : (qcH N).ex i = qoS i := rfl
theorem qP0 (N : Nat) (i : Nat) : (qcH N).rg i = qpo i := rfl
theorem qBN (N : Nat) (i : Nat) : (qcH N).jn i = qsj i := rfl
theorem qG9 (N : Nat) : (qcH N).fuel = N := rfl
noncomputable def qRq : Code := cut [true, true, false, true, true, true] (Tryz.f115.body.getD .skip)
theorem qXO {N : Nat} {Q : X → St → Option (qb [i4])} {e : List LV} {h : List Blk} : qf tt qlM (qcH N) qRq Q ⟨e, h⟩ = qf tt qlM (qcH N) (cut [true, true, false, true, true, true] (Tryz.f115.body.getD .skip)) Q ⟨e, h⟩ := rfl
theorem ze1 (N : Nat) (v2 : List (Val qa)) (v3 : List (Val qa)) {k0 : Unit → Option (qb [i4])} {Q : X → St → Option (qb [i4])} {c : Code} (hc : c = qRq) (hret : ∀ st, Q .ret st = qE tt true [i4] [.tmp 4] st) (h0 : Q (.exit 0) ⟨[u, u, u, u, u, u, u, u, u, u, u, u, u, u, u, u, u, u, u, u, u, u, u, u, u, u, u], []⟩ = k0 ()) : ∀ (n : Nat) (v4 : Int), qF (qf tt qlM (qcH N) c) false qrD Q n ⟨[.one (.sl 108 qa v2 0), .one (.sl 108 qa v3 0), u, u, u, .one (.int .i64 v4), u, u, u, u, u, u, u, u, u, u, u, u, u, u, u, u, u, u, u, u, u], []⟩ = qhF N v2 v3 k0 n v4 := by
  subst hc; intro n; induction n with
  | zero => intros; rfl
  | succ n ih =>
    intro v4
    rw [qM, qXO, qhF]; unfold Tryz.f115
    simp (maxSteps := 10000000) -implicitDefEqProofs [qPY, qlJ, qLP, qpy, qHh, qoS, qP0, qpo, qBN, qsj, qG9, qLA, qOy, qIV, qJ6, qGh, qEC, qAB, qFC, qkZ, hret, h0, ih]
theorem qZu (N : Nat) (v0 : List (Val qa)) (v1 : List (Val qa)) : qf tt qlM (qcH N) (Tryz.f115.body.getD .skip) (qm tt true [i4] [.tmp 4]) (qq [i31, i31] 27 (v0, v1, ())) = qz0 N v0 v1 := by
  unfold Tryz.f115
  simp (maxSteps := 10000000) -implicitDefEqProofs [qPY, qlJ, qLP, qpy, qHh, qoS, qP0, qpo, qBN, qsj, qG9, qLA, qOy, qIV, qJ6, qGh, qEC, qAB, qFC, qkZ]
  rewrite [ze1 (k0 := (fun (_ : Unit) => some (true, ()))) N _ _ ?_ ?_ ?_]
  · rewrite [qz0]; first | rfl | simp (maxSteps := 10000000) -implicitDefEqProofs []
  · rfl
  · intro; simp only [qK, qJ, qL, qC]
  · simp (maxSteps := 10000000) -implicitDefEqProofs [qPY, qlJ, qLP, qpy, qHh, qoS, qP0, qpo, qBN, qsj, qG9, qLA, qOy, qIV, qJ6, qGh, qEC, qAB, qFC, qkZ]
def qui : G := { ps := [i31, i31], rs := [i4], dp := true, pre := fun x => quY x.1 x.2.1, fn := fun x => (qtF x.1 x.2.1, ()) }
theorem qZY (x y : List (Val qa)) (h : quY x y) : ∃ N, qz0 N x y = some (qtF x y, ()) := ⟨List.length x + 1, by
  rw [qz0, qaP]
  rw [qtF, eqS]
  by_cases c : List.length x = List.length y
  · rw [qn (by omega)]
    refine (qOw (f := eqV qa) (xs := x) (ys := y) (F := fun n i => qhF _ x y _ n i) (k := fun _ => some (true, ())) (r := some (false, ())) h.1 c (fun n i hi hi2 => ?_) (fun n i hi => ?_) _ (Nat.lt_succ_self _)).trans qFS
    · rw [qhF, qn (by omega), qe (by omega), qe (by omega), qe (show qzo _ _ from by rw [qG hi]; exact h.2 _ (List.getElem_mem hi)), qG hi, qG hi2, qaP]
      rfl
    · rw [qhF, ql (by omega)]
  · rw [ql (by omega), qwu _ _ c]⟩
theorem q2T : Sound Tryz.prog 115 qui := qt (tt := tt) (Γ := qlM) hT (qg q28 qo) hm (fn := Tryz.f115) Tryz.func115 (c := Tryz.f115.body.getD .skip) (by kernel_rfl) (by kernel_rfl) fun x hx => by
  obtain ⟨N, h⟩ := qZY x.1 x.2.1 hx
  exact ⟨qcH N, q8b, qw _, zdr N, (qZu N x.1 x.2.1).trans h⟩
def qEw (x y : Val Y33) : Bool := eqV Y33 x y
def qve (x _ : Val Y33) : Prop := Bd Y33 x
noncomputable def m28 (N : Nat) (v0 : Val Y33) (v1 : Val Y33) : Option (qb [i4]) := bif (!(decide ((v0.1 : Int) = (v1.1 : Int)))) then (some (false, ())) else (chk (quY (v0.2 : List (Val qa)) (v1.2 : List (Val qa))) (bif (!((qtF (v0.2 : List (Val qa)) (v1.2 : List (Val qa))) : Bool)) then (some (false, ())) else (some (true, ()))))
def Γ28 : Gam := [(115, qui)]
theorem zfn : Gam.get Γ28 115 = some qui := rfl
def qw6 : Nat → Tree := fun _ => .done
def qMg : Nat → Nm := fun _ => ⟨[], [], false⟩
def qO7 : Nat → Option Jn := fun _ => none
def qF7 : Nat → Option Nm := fun _ => none
def qD2 : Nat → Option Nm := fun _ => none
theorem p28 : qj qw6 (Tryz.f28.body.getD .skip) = true := by kernel_rfl
def T28 (N : Nat) : Tab := { tr := qw6, lp := qMg, ex := qF7, rg := qD2, jn := qO7, fuel := N }
theorem q6K (N : Nat) : (T28 N).pins = false := rfl
theorem q4j (N : Nat) : qk Tryz.prog (T28 N) := qp fun _ => rfl
theorem q8t (N : Nat) (i : Nat) : (T28 N).tr i = qw6 i := rfl
theorem zbX (N : Nat) (i : Nat) : (T28 N).lp i = qMg i := rfl
theorem q4a (N : Nat) (i : Nat) : (T28 N).ex i = qF7 i := rfl
theorem zaQ (N : Nat) (i : Nat) : (T28 N).rg i = qD2 i := rfl
theorem q9k (N : Nat) (i : Nat) : (T28 N).jn i = qO7 i := rfl
theorem q6S (N : Nat) : (T28 N).fuel = N := rfl
theorem q9l (N : Nat) (v0 : Val Y33) (v1 : Val Y33) : qf tt Γ28 (T28 N) (Tryz.f28.body.getD .skip) (qm tt true [i4] [.tmp 4]) (qq [i33, i33] 16 (v0, v1, ())) = m28 N v0 v1 := by
  rw [m28]; unfold Tryz.f28
  simp (maxSteps := 10000000) -implicitDefEqProofs [q8t, qw6, zbX, qMg, q4a, qF7, zaQ, qD2, q9k, qO7, q6S, q6K, zfn, qui]
  try rfl
def g28 : G := { ps := [i33, i33], rs := [i4], dp := true, pre := fun x => qve x.1 x.2.1, fn := fun x => (qEw x.1 x.2.1, ()) }
theorem e28 (x y : Val Y33) (h : qve x y) : ∃ N, m28 N x y = some (qEw x y, ()) := ⟨0, by
  obtain ⟨s0, s1⟩ := h
  rw [m28, qe (show quY _ _ from s1)]
  obtain ⟨x0, x1⟩ := x
  obtain ⟨y0, y1⟩ := y
  change _ = some ((eqV (.int .i64) x0 y0 && eqV (.slice 108 qa) x1 y1), ())
  simp only [qaP]
  show _ = _
  generalize he0 : eqV (.int .i64) x0 y0 = e0
  have hd0 : decide ((x0 : Int) = y0) = e0 := he0
  generalize he1 : eqV (.slice 108 qa) x1 y1 = e1
  have hd1 : qtF x1 y1 = e1 := he1
  simp only [hd0, hd1]
  cases e0 <;> cases e1 <;> rfl⟩
theorem s28 : Sound Tryz.prog 28 g28 := qt (tt := tt) (Γ := Γ28) hT (qg q2T qo) hm (fn := Tryz.f28) Tryz.func28 (c := Tryz.f28.body.getD .skip) (by kernel_rfl) (by kernel_rfl) fun x hx => by
  obtain ⟨N, h⟩ := e28 x.1 x.2.1 hx
  exact ⟨T28 N, p28, qw _, q4j N, (q9l N x.1 x.2.1).trans h⟩
def qpE (x y : List (Val Y33)) : Bool := eqV (.slice 33 Y33) x y
def qAg (x _ : List (Val Y33)) : Prop := Bd (.slice 33 Y33) x
noncomputable def qiT (N : Nat) (v2 : List (Val Y33)) (v3 : List (Val Y33)) (k0 : Unit → Option (qb [i4])) : Nat → Int → Option (qb [i4])
  | 0, _ => none
  | n + 1, v4 => bif (decide (v4 < (v2.length : Int))) then (chk (0 ≤ v4 ∧ v4 < (v2.length : Int)) (chk (0 ≤ v4 ∧ v4 < (v3.length : Int)) (chk (qve (v2.getD v4.toNat (qc Y33)) (v3.getD v4.toNat (qc Y33))) (bif (!((qEw (v2.getD v4.toNat (qc Y33)) (v3.getD v4.toNat (qc Y33))) : Bool)) then (some (false, ())) else (qiT N v2 v3 k0 n (IntKind.i64.wrap (v4 + (1 : Int)))))))) else (k0 ())
noncomputable def qvn (N : Nat) (v0 : List (Val Y33)) (v1 : List (Val Y33)) : Option (qb [i4]) := bif (!(decide ((v0.length : Int) = (v1.length : Int)))) then (some (false, ())) else (qiT N v0 v1 (fun (_ : Unit) => some (true, ())) N (0 : Int))
def qkT : Gam := [(28, g28)]
theorem qH7 : Gam.get qkT 28 = some g28 := rfl
def qo6 : Nm := ⟨[true, true, false, false, false, true], [], false⟩
theorem qEx : qo6.zero = false := rfl
theorem qJO : qo6.fix = [] := rfl
theorem qJM : qo6.keep = [true, true, false, false, false, true] := rfl
def qyV : Nm := ⟨[], [], false⟩
theorem qCC : qyV.zero = false := rfl
theorem qJi : qyV.fix = [] := rfl
theorem qL2 : qyV.keep = [] := rfl
def qlj : Nat → Tree := fun i => if i = 6 then .quiet 0 (.quiet 1 (.quiet 2 (.quiet 3 (.quiet 4 (.quiet 5 (.quiet 6 (.quiet 7 (.alt 8 (.quiet 9 .done) .stop)))))))) else .done
def qrQ : Nat → Nm := fun i => if i = 4 then qo6 else ⟨[], [], false⟩
def qsg : Nat → Option Jn := fun _ => none
def qqj : Nat → Option Nm := fun i => if i = 0 then some qyV else none
def qqv : Nat → Option Nm := fun _ => none
theorem ze2 : qj qlj (Tryz.f128.body.getD .skip) = true := by kernel_rfl
def qcD (N : Nat) : Tab := { tr := qlj, lp := qrQ, ex := qqj, rg := qqv, jn := qsg, fuel := N }
theorem qEp (N : Nat) : (qcD N).pins = false := rfl
theorem qZH (N : Nat) : qk Tryz.prog (qcD N) := qp fun _ => rfl
theorem qG1 (N : Nat) (i : Nat) : (qcD N).tr i = qlj i := rfl
theorem qHF (N : Nat) (i : Nat) : (qcD N).lp i = qrQ i := rfl
theorem qBt (N : Nat) (i : Nat) : (qcD N).ex i = qqj i := rfl
theorem qCa (N : Nat) (i : Nat) : (qcD N).rg i = qqv i := rfl
theorem qHj (N : Nat) (i : Nat) : (qcD N).jn i = qsg i := rfl
theorem qFM (N : Nat) : (qcD N).fuel = N := rfl
noncomputable def qSX : Code := cut [true, true, false, true, true, true] (Tryz.f128.body.getD .skip)
theorem qXt {N : Nat} {Q : X → St → Option (qb [i4])} {e : List LV} {h : List Blk} : qf tt qkT (qcD N) qSX Q ⟨e, h⟩ = qf tt qkT (qcD N) (cut [true, true, false, true, true, true] (Tryz.f128.body.getD .skip)) Q ⟨e, h⟩ := rfl
theorem q9D (N : Nat) (v2 : List (Val Y33)) (v3 : List (Val Y33)) {k0 : Unit → Option (qb [i4])} {Q : X → St → Option (qb [i4])} {c : Code} (hc : c = qSX) (hret : ∀ st, Q .ret st = qE tt true [i4] [.tmp 4] st) (h0 : Q (.exit 0) ⟨[u, u, u, u, u, u, u, u, u, u, u, u, u, u, u, u, u, u, u, u, u, u, u, u, u, u, u], []⟩ = k0 ()) : ∀ (n : Nat) (v4 : Int), qF (qf tt qkT (qcD N) c) false qo6 Q n ⟨[.one (.sl 33 Y33 v2 0), .one (.sl 33 Y33 v3 0), u, u, u, .one (.int .i64 v4), u, u, u, u, u, u, u, u, u, u, u, u, u, u, u, u, u, u, u, u, u], []⟩ = qiT N v2 v3 k0 n v4 := by
  subst hc; intro n; induction n with
  | zero => intros; rfl
  | succ n ih =>
    intro v4
    rw [qM, qXt, qiT]; unfold Tryz.f128
    simp (maxSteps := 10000000) -implicitDefEqProofs [qG1, qlj, qHF, qrQ, qBt, qqj, qCa, qqv, qHj, qsg, qFM, qEp, qJO, qJM, qEx, qJi, qL2, qCC, qH7, g28, hret, h0, ih]
theorem q47 (N : Nat) (v0 : List (Val Y33)) (v1 : List (Val Y33)) : qf tt qkT (qcD N) (Tryz.f128.body.getD .skip) (qm tt true [i4] [.tmp 4]) (qq [i48, i48] 27 (v0, v1, ())) = qvn N v0 v1 := by
  unfold Tryz.f128
  simp (maxSteps := 10000000) -implicitDefEqProofs [qG1, qlj, qHF, qrQ, qBt, qqj, qCa, qqv, qHj, qsg, qFM, qEp, qJO, qJM, qEx, qJi, qL2, qCC, qH7, g28]
  rewrite [q9D (k0 := (fun (_ : Unit) => some (true, ()))) N _ _ ?_ ?_ ?_]
  · rewrite [qvn]; first | rfl | simp (maxSteps := 10000000) -implicitDefEqProofs []
  · rfl
  · intro; simp only [qK, qJ, qL, qC]
  · simp (maxSteps := 10000000) -implicitDefEqProofs [qG1, qlj, qHF, qrQ, qBt, qqj, qCa, qqv, qHj, qsg, qFM, qEp, qJO, qJM, qEx, qJi, qL2, qCC, qH7, g28]
def qy4 : G := { ps := [i48, i48], rs := [i4], dp := true, pre := fun x => qAg x.1 x.2.1, fn := fun x => (qpE x.1 x.2.1, ()) }
theorem zc7 (x y : List (Val Y33)) (h : qAg x y) : ∃ N, qvn N x y = some (qpE x y, ()) := ⟨List.length x + 1, by
  rw [qvn, qaP]
  rw [qpE, eqS]
  by_cases c : List.length x = List.length y
  · rw [qn (by omega)]
    refine (qOw (f := eqV Y33) (xs := x) (ys := y) (F := fun n i => qiT _ x y _ n i) (k := fun _ => some (true, ())) (r := some (false, ())) h.1 c (fun n i hi hi2 => ?_) (fun n i hi => ?_) _ (Nat.lt_succ_self _)).trans qFS
    · rw [qiT, qn (by omega), qe (by omega), qe (by omega), qe (show qve _ _ from by rw [qG hi]; exact h.2 _ (List.getElem_mem hi)), qG hi, qG hi2, qaP]
      rfl
    · rw [qiT, ql (by omega)]
  · rw [ql (by omega), qwu _ _ c]⟩
theorem zba : Sound Tryz.prog 128 qy4 := qt (tt := tt) (Γ := qkT) hT (qg s28 qo) hm (fn := Tryz.f128) Tryz.func128 (c := Tryz.f128.body.getD .skip) (by kernel_rfl) (by kernel_rfl) fun x hx => by
  obtain ⟨N, h⟩ := zc7 x.1 x.2.1 hx
  exact ⟨qcD N, ze2, qw _, qZH N, (q47 N x.1 x.2.1).trans h⟩
def qaT (x y : Val Y50) : Bool := eqV Y50 x y
def qaA (x _ : Val Y50) : Prop := Bd Y50 x
noncomputable def m36 (N : Nat) (v0 : Val Y50) (v1 : Val Y50) : Option (qb [i4]) := bif (!(decide ((v0.1 : Int) = (v1.1 : Int)))) then (some (false, ())) else (chk (qAg (v0.2 : List (Val Y33)) (v1.2 : List (Val Y33))) (bif (!((qpE (v0.2 : List (Val Y33)) (v1.2 : List (Val Y33))) : Bool)) then (some (false, ())) else (some (true, ()))))
def Γ36 : Gam := [(128, qy4)]
theorem q7m : Gam.get Γ36 128 = some qy4 := rfl
def qya : Nat → Tree := fun _ => .done
def qIp : Nat → Nm := fun _ => ⟨[], [], false⟩
def qIW : Nat → Option Jn := fun _ => none
def qMk : Nat → Option Nm := fun _ => none
def qNX : Nat → Option Nm := fun _ => none
theorem p36 : qj qya (Tryz.f36.body.getD .skip) = true := by kernel_rfl
def T36 (N : Nat) : Tab := { tr := qya, lp := qIp, ex := qMk, rg := qNX, jn := qIW, fuel := N }
theorem q1X (N : Nat) : (T36 N).pins = false := rfl
theorem zbB (N : Nat) : qk Tryz.prog (T36 N) := qp fun _ => rfl
theorem q3m (N : Nat) (i : Nat) : (T36 N).tr i = qya i := rfl
theorem zd2 (N : Nat) (i : Nat) : (T36 N).lp i = qIp i := rfl
theorem qVI (N : Nat) (i : Nat) : (T36 N).ex i = qMk i := rfl
theorem zdQ (N : Nat) (i : Nat) : (T36 N).rg i = qNX i := rfl
theorem q6U (N : Nat) (i : Nat) : (T36 N).jn i = qIW i := rfl
theorem q0Q (N : Nat) : (T36 N).fuel = N := rfl
theorem zcY (N : Nat) (v0 : Val Y50) (v1 : Val Y50) : qf tt Γ36 (T36 N) (Tryz.f36.body.getD .skip) (qm tt true [i4] [.tmp 4]) (qq [i50, i50] 16 (v0, v1, ())) = m36 N v0 v1 := by
  rw [m36]; unfold Tryz.f36
  simp (maxSteps := 10000000) -implicitDefEqProofs [q3m, qya, zd2, qIp, qVI, qMk, zdQ, qNX, q6U, qIW, q0Q, q1X, q7m, qy4]
  try rfl
def g36 : G := { ps := [i50, i50], rs := [i4], dp := true, pre := fun x => qaA x.1 x.2.1, fn := fun x => (qaT x.1 x.2.1, ()) }
theorem e36 (x y : Val Y50) (h : qaA x y) : ∃ N, m36 N x y = some (qaT x y, ()) := ⟨0, by
  obtain ⟨s0, s1⟩ := h
  rw [m36, qe (show qAg _ _ from s1)]
  obtain ⟨x0, x1⟩ := x
  obtain ⟨y0, y1⟩ := y
  change _ = some ((eqV (.int .i64) x0 y0 && eqV (.slice 33 Y33) x1 y1), ())
  simp only [qaP]
  show _ = _
  generalize he0 : eqV (.int .i64) x0 y0 = e0
  have hd0 : decide ((x0 : Int) = y0) = e0 := he0
  generalize he1 : eqV (.slice 33 Y33) x1 y1 = e1
  have hd1 : qpE x1 y1 = e1 := he1
  simp only [hd0, hd1]
  cases e0 <;> cases e1 <;> rfl⟩
theorem s36 : Sound Tryz.prog 36 g36 := qt (tt := tt) (Γ := Γ36) hT (qg zba qo) hm (fn := Tryz.f36) Tryz.func36 (c := Tryz.f36.body.getD .skip) (by kernel_rfl) (by kernel_rfl) fun x hx => by
  obtain ⟨N, h⟩ := e36 x.1 x.2.1 hx
  exact ⟨T36 N, p36, qw _, zbB N, (zcY N x.1 x.2.1).trans h⟩
end Go.T
