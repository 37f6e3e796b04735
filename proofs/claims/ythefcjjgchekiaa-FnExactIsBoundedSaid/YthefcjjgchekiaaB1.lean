/- Atoms: their directions, their order. -/
import Derived.Test.YthefcjjgchekiaaA8a
set_option linter.unusedSimpArgs false
set_option linter.unusedVariables false
namespace Go.T
open Go Go.Proofs
set_option maxHeartbeats 4000000
set_option maxRecDepth 100000
/-- An atom of the program's as a plain one. -/
abbrev atm (a : Val Y36) : Atm := a
def okA (a : Val Y36) : Prop := isAtom a = true
def hasVar (a : Val Y36) : Bool := decide (gL 0 (atm a).1 ≠ 0)
def hasVar_pre (a : Val Y36) : Prop := okA a
def gSv (a : Val Y36) : Int := (gS (atm a) : Int)
def gSv_pre (a : Val Y36) : Prop := okA a
def sgn (a b : Int) : Int := if a < b then -1 else if b < a then 1 else 0
def wayV (a b : Val Y36) : Int := way (atm a) (atm b)
def wayV_pre (a b : Val Y36) : Prop := okA a ∧ okA b ∧ List.length (α := Int) a.1 = List.length (α := Int) b.1
def cmpV (a b : Val Y36) : Int := bif isAtom a && isAtom b && decide (List.length (α := Int) a.1 = List.length (α := Int) b.1) then cmpA (atm a) (atm b) else 2
theorem okA_in {a : Val Y36} (h : okA a) : ∀ x ∈ (a.1 : List Int), inI x := fun x hx => by
  have h1 : @LE.le Int _ (-400000000) x ∧ @LE.le Int _ x 400000000 := (atom_in h).2.2 x hx
  unfold inI; omega
theorem okA_pre {a : Val Y36} (h : okA a) : gcdM_pre a.1 := ⟨by have := (atom_in h).1; omega, okA_in h⟩
theorem okA_c {a : Val Y36} (h : okA a) : -400000000 ≤ (a.2.1 : Int) ∧ @LE.le Int _ a.2.1 400000000 := by
  have h : isAtom a = true := h
  unfold isAtom at h
  simp only [Bool.and_eq_true, decide_eq_true_eq] at h
  exact of_decide_eq_true h.1.1.2
theorem okA_low {a : Val Y36} (h : okA a) (hv : hasVar a = true) : LowA (atm a) := by
  have h : isAtom a = true := h
  unfold isAtom at h
  simp only [Bool.and_eq_true, decide_eq_true_eq] at h
  have h2 := h.2
  exact ⟨of_decide_eq_true hv, by have h2 : ((gL (Int.natAbs a.2.1) a.1 : Nat) : Int) ≤ 1 := h2; show gL (Int.natAbs a.2.1) a.1 ≤ 1; omega⟩
theorem gS_le {a : Val Y36} (h : okA a) : gSv a ≤ 400000000 := by
  unfold gSv gS
  by_cases h0 : gL 0 (atm a).1 = 0
  · rw [h0]; decide
  · obtain ⟨x, hx, hne⟩ : ∃ x ∈ (atm a).1, x ≠ 0 := by
      apply Classical.byContradiction
      intro hn
      exact h0 (gL_zero.2 fun x hx => Classical.byContradiction fun hne => hn ⟨x, hx, hne⟩)
    have h1 := (gL_dvd (atm a).1 0).2 x hx
    have h2 := Nat.le_of_dvd (by omega) h1
    have h3 : @LE.le Int _ (-400000000) x ∧ @LE.le Int _ x 400000000 := (atom_in h).2.2 x hx
    omega
theorem sgn_sgI (p q : Int) : sgn p q = sgI (p - q) := by
  unfold sgn sgI
  split <;> split <;> (try split) <;> omega
theorem mul_in {x y : Int} (h1 : -400000000 ≤ x ∧ x ≤ 400000000) (h2 : 0 ≤ y ∧ y ≤ 400000000) : IntKind.i64.wrap (x * y) = x * y := by
  have h : (x * y).natAbs ≤ 400000000 * 400000000 := by
    rw [Int.natAbs_mul]; exact Nat.mul_le_mul (by omega) (by omega)
  exact wrap64 (by omega) (by omega)
def g71 : G := { ps := [i36], rs := [i4], dp := true, pre := fun x => hasVar_pre x.1, fn := fun x => (hasVar x.1, ()) }
def g90 : G := { ps := [i36], rs := [i3], dp := true, pre := fun x => gSv_pre x.1, fn := fun x => (gSv x.1, ()) }
def g89 : G := { ps := [i3, i3], rs := [i3], dp := true, pre := fun _ => True, fn := fun x => (sgn x.1 x.2.1, ()) }
-- impl.hasVariables
noncomputable def m71 (N : Nat) (v0 : Val Y36) : Option (Vals [i4]) := chk (gcdM_pre (v0.1 : List (Val (.int .i64)))) (some ((!(decide (((gcdM (v0.1 : List (Val (.int .i64)))) : Int) = (0 : Int)))), ()))
def Γ71 : Gam := [(66, g66)]
theorem Γ71_66 : Gam.get Γ71 66 = some g66 := rfl
def tr71 : Nat → Tree := fun _ => .done
def lp71 : Nat → Nm := fun _ => ⟨[], []⟩
def jn71 : Nat → Option Jn := fun _ => none
def ex71 : Nat → Option Nm := fun _ => none
def rg71 : Nat → Option Nm := fun _ => none
theorem p71 : plansOk tr71 (Try.f71.body.getD .skip) = true := by kernel_rfl
def T71 (N : Nat) : Tab := { tr := tr71, lp := lp71, ex := ex71, rg := rg71, jn := jn71, fuel := N }
theorem T71_pins (N : Nat) : (T71 N).pins = false := rfl
theorem tb71 (N : Nat) : TbOk Try.prog (T71 N) := tb_none fun _ => rfl
theorem T71_tr (N i : Nat) : (T71 N).tr i = tr71 i := rfl
theorem T71_lp (N i : Nat) : (T71 N).lp i = lp71 i := rfl
theorem T71_ex (N i : Nat) : (T71 N).ex i = ex71 i := rfl
theorem T71_rg (N i : Nat) : (T71 N).rg i = rg71 i := rfl
theorem T71_jn (N i : Nat) : (T71 N).jn i = jn71 i := rfl
theorem T71_fuel (N : Nat) : (T71 N).fuel = N := rfl
theorem run71 (N : Nat) (v0 : Val Y36) : runT tt Γ71 (T71 N) (Try.f71.body.getD .skip) (retR tt true [i4] [.tmp 2]) (entryP [i36] 7 (v0, ())) = m71 N v0 := by
  rw [m71]; unfold Try.f71
  simp (maxSteps := 10000000) -implicitDefEqProofs [T71_tr, tr71, T71_lp, lp71, T71_ex, ex71, T71_rg, rg71, T71_jn, jn71, T71_fuel, T71_pins, Γ71_66, g66]
  try rfl
-- impl.directionDivisor
noncomputable def m90 (N : Nat) (v0 : Val Y36) : Option (Vals [i3]) := chk (gcdM_pre (v0.1 : List (Val (.int .i64)))) (bif (decide (((gcdM (v0.1 : List (Val (.int .i64)))) : Int) = (0 : Int))) then (some ((1 : Int), ())) else (some (((gcdM (v0.1 : List (Val (.int .i64)))) : Int), ())))
def Γ90 : Gam := [(66, g66)]
theorem Γ90_66 : Gam.get Γ90 66 = some g66 := rfl
def tr90 : Nat → Tree := fun _ => .done
def lp90 : Nat → Nm := fun _ => ⟨[], []⟩
def jn90 : Nat → Option Jn := fun _ => none
def ex90 : Nat → Option Nm := fun _ => none
def rg90 : Nat → Option Nm := fun _ => none
theorem p90 : plansOk tr90 (Try.f90.body.getD .skip) = true := by kernel_rfl
def T90 (N : Nat) : Tab := { tr := tr90, lp := lp90, ex := ex90, rg := rg90, jn := jn90, fuel := N }
theorem T90_pins (N : Nat) : (T90 N).pins = false := rfl
theorem tb90 (N : Nat) : TbOk Try.prog (T90 N) := tb_none fun _ => rfl
theorem T90_tr (N i : Nat) : (T90 N).tr i = tr90 i := rfl
theorem T90_lp (N i : Nat) : (T90 N).lp i = lp90 i := rfl
theorem T90_ex (N i : Nat) : (T90 N).ex i = ex90 i := rfl
theorem T90_rg (N i : Nat) : (T90 N).rg i = rg90 i := rfl
theorem T90_jn (N i : Nat) : (T90 N).jn i = jn90 i := rfl
theorem T90_fuel (N : Nat) : (T90 N).fuel = N := rfl
theorem run90 (N : Nat) (v0 : Val Y36) : runT tt Γ90 (T90 N) (Try.f90.body.getD .skip) (retR tt true [i3] [.tmp 2]) (entryP [i36] 10 (v0, ())) = m90 N v0 := by
  rw [m90]; unfold Try.f90
  simp (maxSteps := 10000000) -implicitDefEqProofs [T90_tr, tr90, T90_lp, lp90, T90_ex, ex90, T90_rg, rg90, T90_jn, jn90, T90_fuel, T90_pins, Γ90_66, g66]
  try rfl
-- impl.sign
noncomputable def m89 (N : Nat) (v0 : Int) (v1 : Int) : Option (Vals [i3]) := bif (decide (v0 < v1)) then (some ((-1 : Int), ())) else (bif (decide (v1 < v0)) then (some ((1 : Int), ())) else (some ((0 : Int), ())))
def Γ89 : Gam := []
def tr89 : Nat → Tree := fun _ => .done
def lp89 : Nat → Nm := fun _ => ⟨[], []⟩
def jn89 : Nat → Option Jn := fun _ => none
def ex89 : Nat → Option Nm := fun _ => none
def rg89 : Nat → Option Nm := fun _ => none
theorem p89 : plansOk tr89 (Try.f89.body.getD .skip) = true := by kernel_rfl
def T89 (N : Nat) : Tab := { tr := tr89, lp := lp89, ex := ex89, rg := rg89, jn := jn89, fuel := N }
theorem T89_pins (N : Nat) : (T89 N).pins = false := rfl
theorem tb89 (N : Nat) : TbOk Try.prog (T89 N) := tb_none fun _ => rfl
theorem T89_tr (N i : Nat) : (T89 N).tr i = tr89 i := rfl
theorem T89_lp (N i : Nat) : (T89 N).lp i = lp89 i := rfl
theorem T89_ex (N i : Nat) : (T89 N).ex i = ex89 i := rfl
theorem T89_rg (N i : Nat) : (T89 N).rg i = rg89 i := rfl
theorem T89_jn (N i : Nat) : (T89 N).jn i = jn89 i := rfl
theorem T89_fuel (N : Nat) : (T89 N).fuel = N := rfl
theorem run89 (N : Nat) (v0 : Int) (v1 : Int) : runT tt Γ89 (T89 N) (Try.f89.body.getD .skip) (retR tt true [i3] [.tmp 4]) (entryP [i3, i3] 11 (v0, v1, ())) = m89 N v0 v1 := by
  rw [m89]; unfold Try.f89
  simp (maxSteps := 10000000) -implicitDefEqProofs [T89_tr, tr89, T89_lp, lp89, T89_ex, ex89, T89_rg, rg89, T89_jn, jn89, T89_fuel, T89_pins]
  try rfl
theorem e71 (a : Val Y36) (h : hasVar_pre a) : ∃ N, m71 N a = some (hasVar a, ()) := ⟨0, by
  rw [m71, chk_pos (okA_pre h)]
  unfold hasVar gcdM
  have e : (((gL 0 (atm a).1 : Nat) : Int) = 0) ↔ (gL 0 (atm a).1 = 0) := by omega
  by_cases h0 : gL 0 (atm a).1 = 0
  · simp [h0]
  · simp [h0]⟩
theorem e90 (a : Val Y36) (h : gSv_pre a) : ∃ N, m90 N a = some (gSv a, ()) := ⟨0, by
  rw [m90, chk_pos (okA_pre h)]
  unfold gSv gS gcdM
  by_cases h0 : gL 0 (atm a).1 = 0
  · rw [bif_dec (by show ((gL 0 (atm a).1 : Nat) : Int) = 0; omega), h0]; rfl
  · rw [bif_decN (by show ¬ ((gL 0 (atm a).1 : Nat) : Int) = 0; omega)]
    rw [Nat.max_eq_right (by omega)]⟩
theorem e89 (a b : Int) : ∃ N, m89 N a b = some (sgn a b, ()) := ⟨0, by
  rw [m89, sgn]
  by_cases h1 : a < b <;> by_cases h2 : b < a <;> simp [h1, h2]⟩
theorem s71 : Sound Try.prog 71 g71 := sound_run (tt := tt) (Γ := Γ71) hT (ok_cons s66 ok_nil) hm (fn := Try.f71) Try.func71 (c := Try.f71.body.getD .skip) (by kernel_rfl) (by kernel_rfl) fun x hx => by
  obtain ⟨N, h⟩ := e71 x.1 hx
  exact ⟨T71 N, p71, noSem_ok _, tb71 N, (run71 N x.1).trans h⟩
theorem s90 : Sound Try.prog 90 g90 := sound_run (tt := tt) (Γ := Γ90) hT (ok_cons s66 ok_nil) hm (fn := Try.f90) Try.func90 (c := Try.f90.body.getD .skip) (by kernel_rfl) (by kernel_rfl) fun x hx => by
  obtain ⟨N, h⟩ := e90 x.1 hx
  exact ⟨T90 N, p90, noSem_ok _, tb90 N, (run90 N x.1).trans h⟩
theorem s89 : Sound Try.prog 89 g89 := sound_run (tt := tt) (Γ := Γ89) hT ok_nil hm (fn := Try.f89) Try.func89 (c := Try.f89.body.getD .skip) (by kernel_rfl) (by kernel_rfl) fun x hx => by
  obtain ⟨N, h⟩ := e89 x.1 x.2.1
  exact ⟨T89 N, p89, noSem_ok _, tb89 N, (run89 N x.1 x.2.1).trans h⟩
def g76 : G := { ps := [i36, i36], rs := [i3], dp := true, pre := fun x => wayV_pre x.1 x.2.1, fn := fun x => (wayV x.1 x.2.1, ()) }
-- impl.compareDirections
noncomputable def m76_l3 (N : Nat) (v2 : Int) (v3 : Int) (v4 : Int) (v6 : List (Val (.int .i64))) (v7 : Int) (v8 : Bool) (v9 : List (Val (.int .i64))) (v10 : Int) (v11 : Bool) (k0 : Unit → Option (Vals [i3])) : Nat → Int → Option (Vals [i3])
  | 0, _ => none
  | n + 1, v5 => bif (decide (v5 < v4)) then (chk (0 ≤ v5 ∧ v5 < (v6.length : Int)) (chk (v2 ≠ 0) (chk (0 ≤ v5 ∧ v5 < (v9.length : Int)) (chk (v3 ≠ 0) (bif (!(decide (((sgn (IntKind.i64.wrap (((v6.getD v5.toNat (dflt (.int .i64))) : Int).tdiv v2)) (IntKind.i64.wrap (((v9.getD v5.toNat (dflt (.int .i64))) : Int).tdiv v3))) : Int) = (0 : Int)))) then (some (((sgn (IntKind.i64.wrap (((v6.getD v5.toNat (dflt (.int .i64))) : Int).tdiv v2)) (IntKind.i64.wrap (((v9.getD v5.toNat (dflt (.int .i64))) : Int).tdiv v3))) : Int), ())) else (m76_l3 N v2 v3 v4 v6 v7 v8 v9 v10 v11 k0 n (IntKind.i64.wrap (v5 + (1 : Int))))))))) else (k0 ())
noncomputable def m76 (N : Nat) (v0 : Val Y36) (v1 : Val Y36) : Option (Vals [i3]) := chk (gSv_pre v0) (chk (gSv_pre v1) (m76_l3 N ((gSv v0) : Int) ((gSv v1) : Int) ((v0.1 : List (Val (.int .i64))).length : Int) (v0.1 : List (Val (.int .i64))) (v0.2.1 : Int) (v0.2.2 : Bool) (v1.1 : List (Val (.int .i64))) (v1.2.1 : Int) (v1.2.2 : Bool) (fun (_ : Unit) => some ((0 : Int), ())) N (0 : Int)))
def Γ76 : Gam := [(89, g89), (90, g90)]
theorem Γ76_89 : Gam.get Γ76 89 = some g89 := rfl
theorem Γ76_90 : Gam.get Γ76 90 = some g90 := rfl
def nl76_3 : Nm := ⟨[false, false, true, true, false, true, true, false, false, false, false, false, false, false, false, true, true], []⟩
theorem nl76_3_fix : nl76_3.fix = [] := rfl
theorem nl76_3_keep : nl76_3.keep = [false, false, true, true, false, true, true, false, false, false, false, false, false, false, false, true, true] := rfl
def nx76_0 : Nm := ⟨[], []⟩
theorem nx76_0_fix : nx76_0.fix = [] := rfl
theorem nx76_0_keep : nx76_0.keep = [] := rfl
def nr76_1 : Nm := ⟨[false, false, true, true, false, true, true], []⟩
theorem nr76_1_fix : nr76_1.fix = [] := rfl
theorem nr76_1_keep : nr76_1.keep = [false, false, true, true, false, true, true] := rfl
def tr76 : Nat → Tree := fun i => if i = 1 then .quiet 0 (.alt 1 (.quiet 2 (.alt 3 (.quiet 4 (.quiet 5 .done)) .stop)) (.alt 2 (.alt 1 (.alt 3 (.quiet 4 (.quiet 5 .done)) .stop) .stop) .stop)) else if i = 5 then .quiet 0 (.quiet 1 (.quiet 2 (.quiet 3 (.quiet 4 (.quiet 5 (.quiet 6 (.quiet 7 (.quiet 8 (.quiet 9 (.quiet 10 (.quiet 11 (.quiet 12 (.quiet 13 (.alt 14 (.quiet 15 .done) .stop)))))))))))))) else .done
def lp76 : Nat → Nm := fun i => if i = 3 then nl76_3 else ⟨[], []⟩
def jn76 : Nat → Option Jn := fun _ => none
def ex76 : Nat → Option Nm := fun i => if i = 0 then some nx76_0 else none
def rg76 : Nat → Option Nm := fun i => if i = 1 then some nr76_1 else none
theorem p76 : plansOk tr76 (Try.f76.body.getD .skip) = true := by kernel_rfl
def T76 (N : Nat) : Tab := { tr := tr76, lp := lp76, ex := ex76, rg := rg76, jn := jn76, fuel := N }
theorem T76_pins (N : Nat) : (T76 N).pins = false := rfl
theorem tb76 (N : Nat) : TbOk Try.prog (T76 N) := tb_none fun _ => rfl
theorem T76_tr (N i : Nat) : (T76 N).tr i = tr76 i := rfl
theorem T76_lp (N i : Nat) : (T76 N).lp i = lp76 i := rfl
theorem T76_ex (N i : Nat) : (T76 N).ex i = ex76 i := rfl
theorem T76_rg (N i : Nat) : (T76 N).rg i = rg76 i := rfl
theorem T76_jn (N i : Nat) : (T76 N).jn i = jn76 i := rfl
theorem T76_fuel (N : Nat) : (T76 N).fuel = N := rfl
noncomputable def c76_3 : Code := cut [true, true, false, true, true, true] (Try.f76.body.getD .skip)
theorem c76_3_at {N : Nat} {Q : X → St → Option (Vals [i3])} {e : List LV} {h : List Blk} : runT tt Γ76 (T76 N) c76_3 Q ⟨e, h⟩ = runT tt Γ76 (T76 N) (cut [true, true, false, true, true, true] (Try.f76.body.getD .skip)) Q ⟨e, h⟩ := rfl
theorem r76_l3 (N : Nat) (v2 : Int) (v3 : Int) (v4 : Int) (v6 : List (Val (.int .i64))) (v7 : Int) (v8 : Bool) (v9 : List (Val (.int .i64))) (v10 : Int) (v11 : Bool) {k0 : Unit → Option (Vals [i3])} {Q : X → St → Option (Vals [i3])} {c : Code} (hc : c = c76_3) (hret : ∀ st, Q .ret st = retS tt true [i3] [.tmp 4] st) (h0 : Q (.exit 0) ⟨[u, u, u, u, u, u, u, u, u, u, u, u, u, u, u, u, u, u, u, u, u, u, u, u, u, u, u, u, u, u, u, u, u, u, u, u, u, u], []⟩ = k0 ()) : ∀ (n : Nat) (v5 : Int), loopR (runT tt Γ76 (T76 N) c) false nl76_3 Q n ⟨[u, u, .one (.ptr 0 0 0), .one (.ptr 1 0 0), u, .one (.int .i64 v2), .one (.int .i64 v3), u, u, u, u, u, u, u, u, .one (.int .i64 v4), .one (.int .i64 v5), u, u, u, u, u, u, u, u, u, u, u, u, u, u, u, u, u, u, u, u, u], [.box [.sl 3 (.int .i64) v6 2, .int .i64 v7, .bool v8], .box [.sl 3 (.int .i64) v9 2, .int .i64 v10, .bool v11]]⟩ = m76_l3 N v2 v3 v4 v6 v7 v8 v9 v10 v11 k0 n v5 := by
  subst hc; intro n; induction n with
  | zero => intros; rfl
  | succ n ih =>
    intro v5
    rw [loop_succ, c76_3_at, m76_l3]; unfold Try.f76
    simp (maxSteps := 10000000) -implicitDefEqProofs [T76_tr, tr76, T76_lp, lp76, T76_ex, ex76, T76_rg, rg76, T76_jn, jn76, T76_fuel, T76_pins, nl76_3_fix, nl76_3_keep, nx76_0_fix, nx76_0_keep, nr76_1_fix, nr76_1_keep, Γ76_89, Γ76_90, g89, g90, hret, h0, ih]
theorem run76 (N : Nat) (v0 : Val Y36) (v1 : Val Y36) : runT tt Γ76 (T76 N) (Try.f76.body.getD .skip) (retR tt true [i3] [.tmp 4]) (entryP [i36, i36] 38 (v0, v1, ())) = m76 N v0 v1 := by
  unfold Try.f76
  simp (maxSteps := 10000000) -implicitDefEqProofs [T76_tr, tr76, T76_lp, lp76, T76_ex, ex76, T76_rg, rg76, T76_jn, jn76, T76_fuel, T76_pins, nl76_3_fix, nl76_3_keep, nx76_0_fix, nx76_0_keep, nr76_1_fix, nr76_1_keep, Γ76_89, Γ76_90, g89, g90]
  rewrite [r76_l3 (k0 := (fun (_ : Unit) => some ((0 : Int), ()))) N _ _ _ _ _ _ _ _ _ ?_ ?_ ?_]
  · rewrite [m76]; first | rfl | simp (maxSteps := 10000000) -implicitDefEqProofs []
  · rfl
  · intro; simp only [seqR_ret, blockR_ret, retR_ret, retX_ret]
  · simp (maxSteps := 10000000) -implicitDefEqProofs [T76_tr, tr76, T76_lp, lp76, T76_ex, ex76, T76_rg, rg76, T76_jn, jn76, T76_fuel, T76_pins, nl76_3_fix, nl76_3_keep, nx76_0_fix, nx76_0_keep, nr76_1_fix, nr76_1_keep, Γ76_89, Γ76_90, g89, g90]
theorem t76 (N : Nat) (g h : Nat) (hg : (g : Int) ≠ 0) (hh : (h : Int) ≠ 0) (xs ys : List (Val (.int .i64))) (hl : xs.length = ys.length) (h4 : xs.length ≤ 1048576) (hx : ∀ x ∈ xs, inI x) (hy : ∀ x ∈ ys, inI x) (c c' : Int) (s s' : Bool) : ∀ (k i : Nat), xs.length - i = k → ∀ n, k < n →
    m76_l3 N g h xs.length xs c s ys c' s' (fun _ => some ((0 : Int), ())) n i = some (lexI ((List.drop (α := Int) i xs).map fun x => x.tdiv (g : Int)) ((List.drop (α := Int) i ys).map fun x => x.tdiv (h : Int)), ())
  | 0, i, hi, n + 1, _ => by
    rw [m76_l3, bif_decN (by omega), List.drop_eq_nil_of_le (by omega), List.drop_eq_nil_of_le (by omega)]
    rfl
  | k + 1, i, hi, n + 1, hn => by
    have h1 : i < xs.length := by omega
    have h2 : i < ys.length := by omega
    rw [m76_l3, bif_dec (by omega), chk_pos (by omega), chk_pos hg, chk_pos (by omega), chk_pos hh, getD_atI h1, getD_atI h2, tdiv_in (hx _ (List.getElem_mem h1)), tdiv_in (hy _ (List.getElem_mem h2)), wrap_succ h1 h4]
    rw [List.drop_eq_getElem_cons h1, List.drop_eq_getElem_cons h2, List.map_cons, List.map_cons, lexI]
    generalize hp : Int.tdiv xs[i] (g : Int) = p
    generalize hq : Int.tdiv ys[i] (h : Int) = q
    unfold sgn
    by_cases a1 : p < q
    · simp [a1]
    · by_cases a2 : q < p
      · simp [a1, a2]
      · rw [if_neg a1, if_neg a2, if_neg a1, if_neg a2]
        simp only [decide_true, Bool.not_true, cond_false]
        exact t76 N g h hg hh xs ys hl h4 hx hy c c' s s' k (i + 1) (by omega) n (by omega)
theorem e76 (a b : Val Y36) (h : wayV_pre a b) : ∃ N, m76 N a b = some (wayV a b, ()) := ⟨List.length (α := Val (.int .i64)) a.1 + 1, by
  obtain ⟨ha, hb, hl⟩ := h
  rw [m76, chk_pos (show gSv_pre a from ha), chk_pos (show gSv_pre b from hb)]
  have := t76 (List.length (α := Val (.int .i64)) a.1 + 1) (gS (atm a)) (gS (atm b)) (by have := gS_pos (atm a); omega) (by have := gS_pos (atm b); omega) a.1 b.1 hl (by have := (atom_in ha).1; omega) (okA_in ha) (okA_in hb) a.2.1 b.2.1 a.2.2 b.2.2 _ 0 rfl _ (Nat.lt_succ_self _)
  simp only [List.drop_zero] at this
  exact this⟩
theorem s76 : Sound Try.prog 76 g76 := sound_run (tt := tt) (Γ := Γ76) hT (ok_cons s89 (ok_cons s90 ok_nil)) hm (fn := Try.f76) Try.func76 (c := Try.f76.body.getD .skip) (by kernel_rfl) (by kernel_rfl) fun x hx => by
  obtain ⟨N, h⟩ := e76 x.1 x.2.1 hx
  exact ⟨T76 N, p76, noSem_ok _, tb76 N, (run76 N x.1 x.2.1).trans h⟩
def g75 : G := { ps := [i36, i36], rs := [i3], dp := true, pre := fun _ => True, fn := fun x => (cmpV x.1 x.2.1, ()) }
-- impl.CompareAtoms
noncomputable def m75 (N : Nat) (v0 : Val Y36) (v1 : Val Y36) : Option (Vals [i3]) := bif (!((isAtom v0) : Bool)) then (some ((2 : Int), ())) else (bif (!((isAtom v1) : Bool)) then (some ((2 : Int), ())) else (bif (!(decide (((v0.1 : List (Val (.int .i64))).length : Int) = ((v1.1 : List (Val (.int .i64))).length : Int)))) then (some ((2 : Int), ())) else (chk (wayV_pre v0 v1) (bif (!(decide (((wayV v0 v1) : Int) = (0 : Int)))) then (some (((wayV v0 v1) : Int), ())) else (chk (gSv_pre v1) (chk (gSv_pre v0) (bif (!(decide (((sgn (IntKind.i64.wrap ((v0.2.1 : Int) * ((gSv v1) : Int))) (IntKind.i64.wrap ((v1.2.1 : Int) * ((gSv v0) : Int)))) : Int) = (0 : Int)))) then (some (((sgn (IntKind.i64.wrap ((v0.2.1 : Int) * ((gSv v1) : Int))) (IntKind.i64.wrap ((v1.2.1 : Int) * ((gSv v0) : Int)))) : Int), ())) else (bif ((v0.2.2 : Bool) == (v1.2.2 : Bool)) then (some ((0 : Int), ())) else (bif (v0.2.2 : Bool) then (some ((1 : Int), ())) else (some ((-1 : Int), ())))))))))))
def Γ75 : Gam := [(45, g45), (76, g76), (89, g89), (90, g90)]
theorem Γ75_45 : Gam.get Γ75 45 = some g45 := rfl
theorem Γ75_76 : Gam.get Γ75 76 = some g76 := rfl
theorem Γ75_89 : Gam.get Γ75 89 = some g89 := rfl
theorem Γ75_90 : Gam.get Γ75 90 = some g90 := rfl
def tr75 : Nat → Tree := fun i => if i = 6 then .quiet 2 (.keep 0 (.keep 1 (.keep 5 (.keep 6 (.keep 7 (.alt 3 (.first 4 (.alt 8 (.quiet 9 (.alt 10 (.quiet 11 .done) .stop)) .stop)) .stop)))))) else .done
def lp75 : Nat → Nm := fun _ => ⟨[], []⟩
def jn75 : Nat → Option Jn := fun _ => none
def ex75 : Nat → Option Nm := fun _ => none
def rg75 : Nat → Option Nm := fun _ => none
theorem p75 : plansOk tr75 (Try.f75.body.getD .skip) = true := by kernel_rfl
def T75 (N : Nat) : Tab := { tr := tr75, lp := lp75, ex := ex75, rg := rg75, jn := jn75, fuel := N }
theorem T75_pins (N : Nat) : (T75 N).pins = false := rfl
theorem tb75 (N : Nat) : TbOk Try.prog (T75 N) := tb_none fun _ => rfl
theorem T75_tr (N i : Nat) : (T75 N).tr i = tr75 i := rfl
theorem T75_lp (N i : Nat) : (T75 N).lp i = lp75 i := rfl
theorem T75_ex (N i : Nat) : (T75 N).ex i = ex75 i := rfl
theorem T75_rg (N i : Nat) : (T75 N).rg i = rg75 i := rfl
theorem T75_jn (N i : Nat) : (T75 N).jn i = jn75 i := rfl
theorem T75_fuel (N : Nat) : (T75 N).fuel = N := rfl
theorem run75 (N : Nat) (v0 : Val Y36) (v1 : Val Y36) : runT tt Γ75 (T75 N) (Try.f75.body.getD .skip) (retR tt true [i3] [.tmp 4]) (entryP [i36, i36] 51 (v0, v1, ())) = m75 N v0 v1 := by
  rw [m75]; unfold Try.f75
  simp (maxSteps := 10000000) -implicitDefEqProofs [T75_tr, tr75, T75_lp, lp75, T75_ex, ex75, T75_rg, rg75, T75_jn, jn75, T75_fuel, T75_pins, Γ75_45, Γ75_76, Γ75_89, Γ75_90, g45, g76, g89, g90]
  try rfl
theorem e75 (a b : Val Y36) : ∃ N, m75 N a b = some (cmpV a b, ()) := ⟨0, by
  rw [m75, cmpV]
  cases ha : isAtom a with
  | false => simp
  | true =>
    cases hb : isAtom b with
    | false => simp
    | true =>
      by_cases hl : List.length (α := Int) a.1 = List.length (α := Int) b.1
      · have hl' : ((List.length (α := Val (.int .i64)) a.1 : Nat) : Int) = (List.length (α := Val (.int .i64)) b.1 : Nat) := by exact_mod_cast hl
        have h1 := okA_c ha
        have h2 := okA_c hb
        have g1 := gS_le ha
        have g2 := gS_le hb
        have p1 := gS_pos (atm a)
        have p2 := gS_pos (atm b)
        simp only [hl, decide_true, Bool.and_self, cond_true, Bool.not_true, cond_false]
        rw [chk_pos (show wayV_pre a b from ⟨ha, hb, hl⟩), chk_pos (show gSv_pre b from hb), chk_pos (show gSv_pre a from ha)]
        rw [mul_in h1 ⟨by unfold gSv; omega, g2⟩, mul_in h2 ⟨by unfold gSv; omega, g1⟩, sgn_sgI]
        have e1 : sgI (a.2.1 * gSv b - b.2.1 * gSv a) = strA (atm a) (atm b) := rfl
        rw [e1]
        unfold cmpA wayV
        by_cases w0 : way (atm a) (atm b) = 0
        · by_cases s0 : strA (atm a) (atm b) = 0
          · simp only [w0, s0, decide_true, Bool.not_true, cond_false, if_true]
            unfold stc
            cases a.2.2 <;> cases b.2.2 <;> rfl
          · simp [w0, s0]
        · simp [w0]
      · have hl' : ¬ ((List.length (α := Val (.int .i64)) a.1 : Nat) : Int) = (List.length (α := Val (.int .i64)) b.1 : Nat) := by exact_mod_cast hl
        simp only [hl, decide_false, Bool.and_false, cond_false, Bool.not_true]
        rw [bif_not, bif_decN hl']⟩
theorem s75 : Sound Try.prog 75 g75 := sound_run (tt := tt) (Γ := Γ75) hT (ok_cons s45 (ok_cons s76 (ok_cons s89 (ok_cons s90 ok_nil)))) hm (fn := Try.f75) Try.func75 (c := Try.f75.body.getD .skip) (by kernel_rfl) (by kernel_rfl) fun x hx => by
  obtain ⟨N, h⟩ := e75 x.1 x.2.1
  exact ⟨T75 N, p75, noSem_ok _, tb75 N, (run75 N x.1 x.2.1).trans h⟩
def noneC (d : Int) : Val Y32 := (d, [(List.replicate d.toNat (0 : Int), (1 : Int), false)])
def noneC_pre (d : Int) : Prop := 0 ≤ d ∧ d ≤ 1048576
def idL (l : List (Val (.int .i64))) : List (Val (.int .i64)) := l
def idL_pre (l : List (Val (.int .i64))) : Prop := l.length ≤ 1048576
def idA (a : Val Y36) : Val Y36 := a
def idA_pre (a : Val Y36) : Prop := List.length (α := Val (.int .i64)) a.1 ≤ 1048576
def g72 : G := { ps := [i3], rs := [i32], dp := true, pre := fun x => noneC_pre x.1, fn := fun x => (noneC x.1, ()) }
def g86 : G := { ps := [i25], rs := [i25], dp := true, pre := fun x => idL_pre x.1, fn := fun x => (idL x.1, ()) }
-- impl.emptyCell
noncomputable def m72 (N : Nat) (v0 : Int) : Option (Vals [i32]) := chk (0 ≤ v0 ∧ v0 ≤ v0 ∧ v0 ≤ 1048576) (some ((v0, ([((List.replicate v0.toNat (dflt (.int .i64))), (1 : Int), false)] : List (Val Y36))), ()))
def Γ72 : Gam := []
def tr72 : Nat → Tree := fun _ => .done
def lp72 : Nat → Nm := fun _ => ⟨[], []⟩
def jn72 : Nat → Option Jn := fun _ => none
def ex72 : Nat → Option Nm := fun _ => none
def rg72 : Nat → Option Nm := fun _ => none
theorem p72 : plansOk tr72 (Try.f72.body.getD .skip) = true := by kernel_rfl
def T72 (N : Nat) : Tab := { tr := tr72, lp := lp72, ex := ex72, rg := rg72, jn := jn72, fuel := N }
theorem T72_pins (N : Nat) : (T72 N).pins = false := rfl
theorem tb72 (N : Nat) : TbOk Try.prog (T72 N) := tb_none fun _ => rfl
theorem T72_tr (N i : Nat) : (T72 N).tr i = tr72 i := rfl
theorem T72_lp (N i : Nat) : (T72 N).lp i = lp72 i := rfl
theorem T72_ex (N i : Nat) : (T72 N).ex i = ex72 i := rfl
theorem T72_rg (N i : Nat) : (T72 N).rg i = rg72 i := rfl
theorem T72_jn (N i : Nat) : (T72 N).jn i = jn72 i := rfl
theorem T72_fuel (N : Nat) : (T72 N).fuel = N := rfl
theorem run72 (N : Nat) (v0 : Int) : runT tt Γ72 (T72 N) (Try.f72.body.getD .skip) (retR tt true [i32] [.cell 2 32]) (entryP [i3] 9 (v0, ())) = m72 N v0 := by
  rw [m72]; unfold Try.f72
  simp (maxSteps := 10000000) -implicitDefEqProofs [T72_tr, tr72, T72_lp, lp72, T72_ex, ex72, T72_rg, rg72, T72_jn, jn72, T72_fuel, T72_pins]
  try rfl
-- impl.copyNumbers
noncomputable def m86 (N : Nat) (v0 : List (Val (.int .i64))) : Option (Vals [i25]) := chk (([] : List (Val (.int .i64))).length + v0.length ≤ 1048576) (some ((([] : List (Val (.int .i64))) ++ v0), ()))
def Γ86 : Gam := []
def tr86 : Nat → Tree := fun _ => .done
def lp86 : Nat → Nm := fun _ => ⟨[], []⟩
def jn86 : Nat → Option Jn := fun _ => none
def ex86 : Nat → Option Nm := fun _ => none
def rg86 : Nat → Option Nm := fun _ => none
theorem p86 : plansOk tr86 (Try.f86.body.getD .skip) = true := by kernel_rfl
def T86 (N : Nat) : Tab := { tr := tr86, lp := lp86, ex := ex86, rg := rg86, jn := jn86, fuel := N }
theorem T86_pins (N : Nat) : (T86 N).pins = false := rfl
theorem tb86 (N : Nat) : TbOk Try.prog (T86 N) := tb_none fun _ => rfl
theorem T86_tr (N i : Nat) : (T86 N).tr i = tr86 i := rfl
theorem T86_lp (N i : Nat) : (T86 N).lp i = lp86 i := rfl
theorem T86_ex (N i : Nat) : (T86 N).ex i = ex86 i := rfl
theorem T86_rg (N i : Nat) : (T86 N).rg i = rg86 i := rfl
theorem T86_jn (N i : Nat) : (T86 N).jn i = jn86 i := rfl
theorem T86_fuel (N : Nat) : (T86 N).fuel = N := rfl
theorem run86 (N : Nat) (v0 : List (Val (.int .i64))) : runT tt Γ86 (T86 N) (Try.f86.body.getD .skip) (retR tt true [i25] [.tmp 2]) (entryP [i25] 6 (v0, ())) = m86 N v0 := by
  rw [m86]; unfold Try.f86
  simp (maxSteps := 10000000) -implicitDefEqProofs [T86_tr, tr86, T86_lp, lp86, T86_ex, ex86, T86_rg, rg86, T86_jn, jn86, T86_fuel, T86_pins]
  try rfl
theorem e72 (d : Int) (h : noneC_pre d) : ∃ N, m72 N d = some (noneC d, ()) := ⟨0, by
  rw [m72, chk_pos ⟨h.1, Int.le_refl _, h.2⟩]; rfl⟩
theorem e86 (l : List (Val (.int .i64))) (h : idL_pre l) : ∃ N, m86 N l = some (idL l, ()) := ⟨0, by
  rw [m86, chk_pos (by simpa [idL_pre] using h)]; rfl⟩
theorem s72 : Sound Try.prog 72 g72 := sound_run (tt := tt) (Γ := Γ72) hT ok_nil hm (fn := Try.f72) Try.func72 (c := Try.f72.body.getD .skip) (by kernel_rfl) (by kernel_rfl) fun x hx => by
  obtain ⟨N, h⟩ := e72 x.1 hx
  exact ⟨T72 N, p72, noSem_ok _, tb72 N, (run72 N x.1).trans h⟩
theorem s86 : Sound Try.prog 86 g86 := sound_run (tt := tt) (Γ := Γ86) hT ok_nil hm (fn := Try.f86) Try.func86 (c := Try.f86.body.getD .skip) (by kernel_rfl) (by kernel_rfl) fun x hx => by
  obtain ⟨N, h⟩ := e86 x.1 hx
  exact ⟨T86 N, p86, noSem_ok _, tb86 N, (run86 N x.1).trans h⟩
def g73 : G := { ps := [i36], rs := [i36], dp := true, pre := fun x => idA_pre x.1, fn := fun x => (idA x.1, ()) }
-- impl.copyAtom
noncomputable def m73 (N : Nat) (v0 : Val Y36) : Option (Vals [i36]) := chk (idL_pre (v0.1 : List (Val (.int .i64)))) (some ((((idL (v0.1 : List (Val (.int .i64)))) : List (Val (.int .i64))), (v0.2.1 : Int), (v0.2.2 : Bool)), ()))
def Γ73 : Gam := [(86, g86)]
theorem Γ73_86 : Gam.get Γ73 86 = some g86 := rfl
def nr73_1 : Nm := ⟨[false, false, true], []⟩
theorem nr73_1_fix : nr73_1.fix = [] := rfl
theorem nr73_1_keep : nr73_1.keep = [false, false, true] := rfl
def tr73 : Nat → Tree := fun i => if i = 1 then .quiet 0 (.quiet 1 (.alt 2 (.quiet 3 (.quiet 4 (.quiet 5 (.quiet 6 (.quiet 7 (.alt 8 .done .stop)))))) (.alt 3 (.alt 2 (.quiet 4 (.quiet 5 (.quiet 6 (.quiet 7 (.alt 8 .done .stop))))) (.alt 4 (.alt 2 (.quiet 5 (.quiet 6 (.quiet 7 (.alt 8 .done .stop)))) (.alt 5 (.alt 2 (.quiet 6 (.quiet 7 (.alt 8 .done .stop))) (.alt 6 (.alt 2 (.quiet 7 (.alt 8 .done .stop)) .stop) .stop)) .stop)) (.alt 5 (.alt 2 (.quiet 4 (.quiet 6 (.quiet 7 (.alt 8 .done .stop)))) (.alt 4 (.alt 2 (.quiet 6 (.quiet 7 (.alt 8 .done .stop))) (.alt 6 (.alt 2 (.quiet 7 (.alt 8 .done .stop)) .stop) .stop)) (.alt 6 (.alt 2 (.quiet 4 (.quiet 7 (.alt 8 .done .stop))) (.alt 4 (.alt 2 (.quiet 7 (.alt 8 .done .stop)) .stop) .stop)) .stop))) .stop))) (.alt 5 (.alt 2 (.quiet 3 (.quiet 4 (.quiet 6 (.quiet 7 (.alt 8 .done .stop))))) (.alt 3 (.alt 2 (.quiet 4 (.quiet 6 (.quiet 7 (.alt 8 .done .stop)))) (.alt 4 (.alt 2 (.quiet 6 (.quiet 7 (.alt 8 .done .stop))) (.alt 6 (.alt 2 (.quiet 7 (.alt 8 .done .stop)) .stop) .stop)) (.alt 6 (.alt 2 (.quiet 4 (.quiet 7 (.alt 8 .done .stop))) (.alt 4 (.alt 2 (.quiet 7 (.alt 8 .done .stop)) .stop) .stop)) .stop))) (.alt 6 (.alt 2 (.quiet 3 (.quiet 4 (.quiet 7 (.alt 8 .done .stop)))) (.alt 3 (.alt 2 (.quiet 4 (.quiet 7 (.alt 8 .done .stop))) (.alt 4 (.alt 2 (.quiet 7 (.alt 8 .done .stop)) .stop) .stop)) .stop)) .stop))) .stop)))) else .done
def lp73 : Nat → Nm := fun _ => ⟨[], []⟩
def jn73 : Nat → Option Jn := fun _ => none
def ex73 : Nat → Option Nm := fun _ => none
def rg73 : Nat → Option Nm := fun i => if i = 1 then some nr73_1 else none
theorem p73 : plansOk tr73 (Try.f73.body.getD .skip) = true := by kernel_rfl
def T73 (N : Nat) : Tab := { tr := tr73, lp := lp73, ex := ex73, rg := rg73, jn := jn73, fuel := N }
theorem T73_pins (N : Nat) : (T73 N).pins = false := rfl
theorem tb73 (N : Nat) : TbOk Try.prog (T73 N) := tb_none fun _ => rfl
theorem T73_tr (N i : Nat) : (T73 N).tr i = tr73 i := rfl
theorem T73_lp (N i : Nat) : (T73 N).lp i = lp73 i := rfl
theorem T73_ex (N i : Nat) : (T73 N).ex i = ex73 i := rfl
theorem T73_rg (N i : Nat) : (T73 N).rg i = rg73 i := rfl
theorem T73_jn (N i : Nat) : (T73 N).jn i = jn73 i := rfl
theorem T73_fuel (N : Nat) : (T73 N).fuel = N := rfl
theorem run73 (N : Nat) (v0 : Val Y36) : runT tt Γ73 (T73 N) (Try.f73.body.getD .skip) (retR tt true [i36] [.cell 2 36]) (entryP [i36] 11 (v0, ())) = m73 N v0 := by
  rw [m73]; unfold Try.f73
  simp (maxSteps := 10000000) -implicitDefEqProofs [T73_tr, tr73, T73_lp, lp73, T73_ex, ex73, T73_rg, rg73, T73_jn, jn73, T73_fuel, T73_pins, nr73_1_fix, nr73_1_keep, Γ73_86, g86]
  try rfl
theorem e73 (a : Val Y36) (h : idA_pre a) : ∃ N, m73 N a = some (idA a, ()) := ⟨0, by
  rw [m73, chk_pos (show idL_pre a.1 from h)]; rfl⟩
theorem s73 : Sound Try.prog 73 g73 := sound_run (tt := tt) (Γ := Γ73) hT (ok_cons s86 ok_nil) hm (fn := Try.f73) Try.func73 (c := Try.f73.body.getD .skip) (by kernel_rfl) (by kernel_rfl) fun x hx => by
  obtain ⟨N, h⟩ := e73 x.1 hx
  exact ⟨T73 N, p73, noSem_ok _, tb73 N, (run73 N x.1).trans h⟩
end Go.T
