/- Atoms: their directions, their order. -/
import Derived.Test.YthefcjjgchekiaaGreatA8a
set_option linter.unusedSimpArgs false
set_option linter.unusedVariables false
namespace Go.T
open Go Go.Proofs
set_option maxHeartbeats 4000000
set_option maxRecDepth 100000
abbrev atm (a : Val Y108) : Atm := a
def okA (a : Val Y108) : Prop := isAtom a = true
def hasVar (a : Val Y108) : Bool := decide (gL 0 (atm a).1 ≠ 0)
def hasVar_pre (a : Val Y108) : Prop := okA a
def gSv (a : Val Y108) : Int := (gS (atm a) : Int)
def gSv_pre (a : Val Y108) : Prop := okA a
def sgn (a b : Int) : Int := if a < b then -1 else if b < a then 1 else 0
def wayV (a b : Val Y108) : Int := way (atm a) (atm b)
def wayV_pre (a b : Val Y108) : Prop := okA a ∧ okA b ∧ List.length (α := Int) a.1 = List.length (α := Int) b.1
def cmpV (a b : Val Y108) : Int := bif isAtom a && isAtom b && decide (List.length (α := Int) a.1 = List.length (α := Int) b.1) then cmpA (atm a) (atm b) else 2
theorem okA_in {a : Val Y108} (h : okA a) : ∀ x ∈ (a.1 : List Int), inI x := fun x hx => by
  have h1 : @LE.le Int _ (-400000000) x ∧ @LE.le Int _ x 400000000 := (atom_in h).2.2 x hx
  unfold inI; omega
theorem okA_pre {a : Val Y108} (h : okA a) : gcdM_pre a.1 := ⟨by have := (atom_in h).1; omega, okA_in h⟩
theorem okA_c {a : Val Y108} (h : okA a) : -400000000 ≤ (a.2.1 : Int) ∧ @LE.le Int _ a.2.1 400000000 := by
  have h : isAtom a = true := h
  unfold isAtom at h
  simp only [Bool.and_eq_true, decide_eq_true_eq] at h
  exact of_decide_eq_true h.1.1.2
theorem okA_low {a : Val Y108} (h : okA a) (hv : hasVar a = true) : LowA (atm a) := by
  have h : isAtom a = true := h
  unfold isAtom at h
  simp only [Bool.and_eq_true, decide_eq_true_eq] at h
  have h2 := h.2
  exact ⟨of_decide_eq_true hv, by have h2 : ((gL (Int.natAbs a.2.1) a.1 : Nat) : Int) ≤ 1 := h2; show gL (Int.natAbs a.2.1) a.1 ≤ 1; omega⟩
theorem gS_le {a : Val Y108} (h : okA a) : gSv a ≤ 400000000 := by
  unfold gSv gS
  by_cases h0 : gL 0 (atm a).1 = 0
  · rw [h0]; decide
  · obtain ⟨x, hx, hne⟩ : ∃ x ∈ (atm a).1, x ≠ 0 := by
      apply Classical.byContradiction
      intro hn
      exact h0 (gL_zero.2 fun x hx => Classical.byContradiction fun hne => hn ⟨x, hx, hne⟩)
    have h1 := (gL_dvd (atm a).1 0).2 x hx
    have h2 := Nat.le_of_dvd (by omega) h1
    have h3 : @LE.le Int _ (-400000000) x ∧ @LE.le Int _ x 400000000 := (atom_in h).2.2 x hx
    omega
theorem sgn_sgI (p q : Int) : sgn p q = sgI (p - q) := by
  unfold sgn sgI
  split <;> split <;> (try split) <;> omega
theorem mul_in {x y : Int} (h1 : -400000000 ≤ x ∧ x ≤ 400000000) (h2 : 0 ≤ y ∧ y ≤ 400000000) : IntKind.i64.wrap (x * y) = x * y := by
  have h : (x * y).natAbs ≤ 400000000 * 400000000 := by
    rw [Int.natAbs_mul]; exact Nat.mul_le_mul (by omega) (by omega)
  exact wrap64 (by omega) (by omega)
def g287 : G := { ps := [i108], rs := [i4], dp := true, pre := fun x => hasVar_pre x.1, fn := fun x => (hasVar x.1, ()) }
def g318 : G := { ps := [i108], rs := [i3], dp := true, pre := fun x => gSv_pre x.1, fn := fun x => (gSv x.1, ()) }
def g317 : G := { ps := [i3, i3], rs := [i3], dp := true, pre := fun _ => True, fn := fun x => (sgn x.1 x.2.1, ()) }
noncomputable def m287 (N : Nat) (v0 : Val Y108) : Option (Vals [i4]) := chk (gcdM_pre (v0.1 : List (Val (.int .i64)))) (some ((!(decide (((gcdM (v0.1 : List (Val (.int .i64)))) : Int) = (0 : Int)))), ()))
def Γ287 : Gam := [(282, g282)]
theorem Γ287_282 : Gam.get Γ287 282 = some g282 := rfl
def tr287 : Nat → Tree := fun _ => .done
def lp287 : Nat → Nm := fun _ => ⟨[], [], false⟩
def jn287 : Nat → Option Jn := fun _ => none
def ex287 : Nat → Option Nm := fun _ => none
def rg287 : Nat → Option Nm := fun _ => none
theorem p287 : plansOk tr287 (Tryz.f287.body.getD .skip) = true := by kernel_rfl
def T287 (N : Nat) : Tab := { tr := tr287, lp := lp287, ex := ex287, rg := rg287, jn := jn287, fuel := N }
theorem T287_pins (N : Nat) : (T287 N).pins = false := rfl
theorem tb287 (N : Nat) : TbOk Tryz.prog (T287 N) := tb_none fun _ => rfl
theorem T287_tr (N : Nat) (i : Nat) : (T287 N).tr i = tr287 i := rfl
theorem T287_lp (N : Nat) (i : Nat) : (T287 N).lp i = lp287 i := rfl
theorem T287_ex (N : Nat) (i : Nat) : (T287 N).ex i = ex287 i := rfl
theorem T287_rg (N : Nat) (i : Nat) : (T287 N).rg i = rg287 i := rfl
theorem T287_jn (N : Nat) (i : Nat) : (T287 N).jn i = jn287 i := rfl
theorem T287_fuel (N : Nat) : (T287 N).fuel = N := rfl
theorem run287 (N : Nat) (v0 : Val Y108) : runT tt Γ287 (T287 N) (Tryz.f287.body.getD .skip) (retR tt true [i4] [.tmp 2]) (entryP [i108] 7 (v0, ())) = m287 N v0 := by
  rw [m287]; unfold Tryz.f287
  simp (maxSteps := 10000000) -implicitDefEqProofs [T287_tr, tr287, T287_lp, lp287, T287_ex, ex287, T287_rg, rg287, T287_jn, jn287, T287_fuel, T287_pins, Γ287_282, g282]
  try rfl
noncomputable def m318 (N : Nat) (v0 : Val Y108) : Option (Vals [i3]) := chk (gcdM_pre (v0.1 : List (Val (.int .i64)))) (bif (decide (((gcdM (v0.1 : List (Val (.int .i64)))) : Int) = (0 : Int))) then (some ((1 : Int), ())) else (some (((gcdM (v0.1 : List (Val (.int .i64)))) : Int), ())))
def Γ318 : Gam := [(282, g282)]
theorem Γ318_282 : Gam.get Γ318 282 = some g282 := rfl
def tr318 : Nat → Tree := fun _ => .done
def lp318 : Nat → Nm := fun _ => ⟨[], [], false⟩
def jn318 : Nat → Option Jn := fun _ => none
def ex318 : Nat → Option Nm := fun _ => none
def rg318 : Nat → Option Nm := fun _ => none
theorem p318 : plansOk tr318 (Tryz.f318.body.getD .skip) = true := by kernel_rfl
def T318 (N : Nat) : Tab := { tr := tr318, lp := lp318, ex := ex318, rg := rg318, jn := jn318, fuel := N }
theorem T318_pins (N : Nat) : (T318 N).pins = false := rfl
theorem tb318 (N : Nat) : TbOk Tryz.prog (T318 N) := tb_none fun _ => rfl
theorem T318_tr (N : Nat) (i : Nat) : (T318 N).tr i = tr318 i := rfl
theorem T318_lp (N : Nat) (i : Nat) : (T318 N).lp i = lp318 i := rfl
theorem T318_ex (N : Nat) (i : Nat) : (T318 N).ex i = ex318 i := rfl
theorem T318_rg (N : Nat) (i : Nat) : (T318 N).rg i = rg318 i := rfl
theorem T318_jn (N : Nat) (i : Nat) : (T318 N).jn i = jn318 i := rfl
theorem T318_fuel (N : Nat) : (T318 N).fuel = N := rfl
theorem run318 (N : Nat) (v0 : Val Y108) : runT tt Γ318 (T318 N) (Tryz.f318.body.getD .skip) (retR tt true [i3] [.tmp 2]) (entryP [i108] 10 (v0, ())) = m318 N v0 := by
  rw [m318]; unfold Tryz.f318
  simp (maxSteps := 10000000) -implicitDefEqProofs [T318_tr, tr318, T318_lp, lp318, T318_ex, ex318, T318_rg, rg318, T318_jn, jn318, T318_fuel, T318_pins, Γ318_282, g282]
  try rfl
noncomputable def m317 (N : Nat) (v0 : Int) (v1 : Int) : Option (Vals [i3]) := bif (decide (v0 < v1)) then (some ((-1 : Int), ())) else (bif (decide (v1 < v0)) then (some ((1 : Int), ())) else (some ((0 : Int), ())))
def Γ317 : Gam := []
def tr317 : Nat → Tree := fun _ => .done
def lp317 : Nat → Nm := fun _ => ⟨[], [], false⟩
def jn317 : Nat → Option Jn := fun _ => none
def ex317 : Nat → Option Nm := fun _ => none
def rg317 : Nat → Option Nm := fun _ => none
theorem p317 : plansOk tr317 (Tryz.f317.body.getD .skip) = true := by kernel_rfl
def T317 (N : Nat) : Tab := { tr := tr317, lp := lp317, ex := ex317, rg := rg317, jn := jn317, fuel := N }
theorem T317_pins (N : Nat) : (T317 N).pins = false := rfl
theorem tb317 (N : Nat) : TbOk Tryz.prog (T317 N) := tb_none fun _ => rfl
theorem T317_tr (N : Nat) (i : Nat) : (T317 N).tr i = tr317 i := rfl
theorem T317_lp (N : Nat) (i : Nat) : (T317 N).lp i = lp317 i := rfl
theorem T317_ex (N : Nat) (i : Nat) : (T317 N).ex i = ex317 i := rfl
theorem T317_rg (N : Nat) (i : Nat) : (T317 N).rg i = rg317 i := rfl
theorem T317_jn (N : Nat) (i : Nat) : (T317 N).jn i = jn317 i := rfl
theorem T317_fuel (N : Nat) : (T317 N).fuel = N := rfl
theorem run317 (N : Nat) (v0 : Int) (v1 : Int) : runT tt Γ317 (T317 N) (Tryz.f317.body.getD .skip) (retR tt true [i3] [.tmp 4]) (entryP [i3, i3] 11 (v0, v1, ())) = m317 N v0 v1 := by
  rw [m317]; unfold Tryz.f317
  simp (maxSteps := 10000000) -implicitDefEqProofs [T317_tr, tr317, T317_lp, lp317, T317_ex, ex317, T317_rg, rg317, T317_jn, jn317, T317_fuel, T317_pins]
  try rfl
theorem e287 (a : Val Y108) (h : hasVar_pre a) : ∃ N, m287 N a = some (hasVar a, ()) := ⟨0, by
  rw [m287, chk_pos (okA_pre h)]
  unfold hasVar gcdM
  have e : (((gL 0 (atm a).1 : Nat) : Int) = 0) ↔ (gL 0 (atm a).1 = 0) := by omega
  by_cases h0 : gL 0 (atm a).1 = 0
  · simp [h0]
  · simp [h0]⟩
theorem e318 (a : Val Y108) (h : gSv_pre a) : ∃ N, m318 N a = some (gSv a, ()) := ⟨0, by
  rw [m318, chk_pos (okA_pre h)]
  unfold gSv gS gcdM
  by_cases h0 : gL 0 (atm a).1 = 0
  · rw [bif_dec (by show ((gL 0 (atm a).1 : Nat) : Int) = 0; omega), h0]; rfl
  · rw [bif_decN (by show ¬ ((gL 0 (atm a).1 : Nat) : Int) = 0; omega)]
    rw [Nat.max_eq_right (by omega)]⟩
theorem e317 (a b : Int) : ∃ N, m317 N a b = some (sgn a b, ()) := ⟨0, by
  rw [m317, sgn]
  by_cases h1 : a < b <;> by_cases h2 : b < a <;> simp [h1, h2]⟩
theorem s287 : Sound Tryz.prog 287 g287 := sound_run (tt := tt) (Γ := Γ287) hT (ok_cons s282 ok_nil) hm (fn := Tryz.f287) Tryz.func287 (c := Tryz.f287.body.getD .skip) (by kernel_rfl) (by kernel_rfl) fun x hx => by
  obtain ⟨N, h⟩ := e287 x.1 hx
  exact ⟨T287 N, p287, noSem_ok _, tb287 N, (run287 N x.1).trans h⟩
theorem s318 : Sound Tryz.prog 318 g318 := sound_run (tt := tt) (Γ := Γ318) hT (ok_cons s282 ok_nil) hm (fn := Tryz.f318) Tryz.func318 (c := Tryz.f318.body.getD .skip) (by kernel_rfl) (by kernel_rfl) fun x hx => by
  obtain ⟨N, h⟩ := e318 x.1 hx
  exact ⟨T318 N, p318, noSem_ok _, tb318 N, (run318 N x.1).trans h⟩
theorem s317 : Sound Tryz.prog 317 g317 := sound_run (tt := tt) (Γ := Γ317) hT ok_nil hm (fn := Tryz.f317) Tryz.func317 (c := Tryz.f317.body.getD .skip) (by kernel_rfl) (by kernel_rfl) fun x hx => by
  obtain ⟨N, h⟩ := e317 x.1 x.2.1
  exact ⟨T317 N, p317, noSem_ok _, tb317 N, (run317 N x.1 x.2.1).trans h⟩
def g290 : G := { ps := [i108, i108], rs := [i3], dp := true, pre := fun x => wayV_pre x.1 x.2.1, fn := fun x => (wayV x.1 x.2.1, ()) }
noncomputable def m290_l3 (N : Nat) (v2 : Int) (v3 : Int) (v4 : Int) (v6 : List (Val (.int .i64))) (v7 : Int) (v8 : Bool) (v9 : List (Val (.int .i64))) (v10 : Int) (v11 : Bool) (k0 : Unit → Option (Vals [i3])) : Nat → Int → Option (Vals [i3])
  | 0, _ => none
  | n + 1, v5 => bif (decide (v5 < v4)) then (chk (0 ≤ v5 ∧ v5 < (v6.length : Int)) (chk (v2 ≠ 0) (chk (0 ≤ v5 ∧ v5 < (v9.length : Int)) (chk (v3 ≠ 0) (bif (!(decide (((sgn (IntKind.i64.wrap (((v6.getD v5.toNat (dflt (.int .i64))) : Int).tdiv v2)) (IntKind.i64.wrap (((v9.getD v5.toNat (dflt (.int .i64))) : Int).tdiv v3))) : Int) = (0 : Int)))) then (some (((sgn (IntKind.i64.wrap (((v6.getD v5.toNat (dflt (.int .i64))) : Int).tdiv v2)) (IntKind.i64.wrap (((v9.getD v5.toNat (dflt (.int .i64))) : Int).tdiv v3))) : Int), ())) else (m290_l3 N v2 v3 v4 v6 v7 v8 v9 v10 v11 k0 n (IntKind.i64.wrap (v5 + (1 : Int))))))))) else (k0 ())
noncomputable def m290 (N : Nat) (v0 : Val Y108) (v1 : Val Y108) : Option (Vals [i3]) := chk (gSv_pre v0) (chk (gSv_pre v1) (m290_l3 N ((gSv v0) : Int) ((gSv v1) : Int) ((v0.1 : List (Val (.int .i64))).length : Int) (v0.1 : List (Val (.int .i64))) (v0.2.1 : Int) (v0.2.2 : Bool) (v1.1 : List (Val (.int .i64))) (v1.2.1 : Int) (v1.2.2 : Bool) (fun (_ : Unit) => some ((0 : Int), ())) N (0 : Int)))
def Γ290 : Gam := [(317, g317), (318, g318)]
theorem Γ290_317 : Gam.get Γ290 317 = some g317 := rfl
theorem Γ290_318 : Gam.get Γ290 318 = some g318 := rfl
def nl290_3 : Nm := ⟨[false, false, true, true, false, true, true, false, false, false, false, false, false, false, false, true, true], [], false⟩
theorem nl290_3_zero : nl290_3.zero = false := rfl
theorem nl290_3_fix : nl290_3.fix = [] := rfl
theorem nl290_3_keep : nl290_3.keep = [false, false, true, true, false, true, true, false, false, false, false, false, false, false, false, true, true] := rfl
def nx290_0 : Nm := ⟨[], [], false⟩
theorem nx290_0_zero : nx290_0.zero = false := rfl
theorem nx290_0_fix : nx290_0.fix = [] := rfl
theorem nx290_0_keep : nx290_0.keep = [] := rfl
def nr290_1 : Nm := ⟨[false, false, true, true, false, true, true], [], false⟩
theorem nr290_1_zero : nr290_1.zero = false := rfl
theorem nr290_1_fix : nr290_1.fix = [] := rfl
theorem nr290_1_keep : nr290_1.keep = [false, false, true, true, false, true, true] := rfl
def tr290 : Nat → Tree := fun i => if i = 1 then .quiet 0 (.alt 1 (.quiet 2 (.alt 3 (.quiet 4 (.quiet 5 .done)) .stop)) (.alt 2 (.alt 1 (.alt 3 (.quiet 4 (.quiet 5 .done)) .stop) .stop) .stop)) else if i = 5 then .quiet 0 (.quiet 1 (.quiet 2 (.quiet 3 (.quiet 4 (.quiet 5 (.quiet 6 (.quiet 7 (.quiet 8 (.quiet 9 (.quiet 10 (.quiet 11 (.quiet 12 (.quiet 13 (.alt 14 (.quiet 15 .done) .stop)))))))))))))) else .done
def lp290 : Nat → Nm := fun i => if i = 3 then nl290_3 else ⟨[], [], false⟩
def jn290 : Nat → Option Jn := fun _ => none
def ex290 : Nat → Option Nm := fun i => if i = 0 then some nx290_0 else none
def rg290 : Nat → Option Nm := fun i => if i = 1 then some nr290_1 else none
theorem p290 : plansOk tr290 (Tryz.f290.body.getD .skip) = true := by kernel_rfl
def T290 (N : Nat) : Tab := { tr := tr290, lp := lp290, ex := ex290, rg := rg290, jn := jn290, fuel := N }
theorem T290_pins (N : Nat) : (T290 N).pins = false := rfl
theorem tb290 (N : Nat) : TbOk Tryz.prog (T290 N) := tb_none fun _ => rfl
theorem T290_tr (N : Nat) (i : Nat) : (T290 N).tr i = tr290 i := rfl
theorem T290_lp (N : Nat) (i : Nat) : (T290 N).lp i = lp290 i := rfl
theorem T290_ex (N : Nat) (i : Nat) : (T290 N).ex i = ex290 i := rfl
theorem T290_rg (N : Nat) (i : Nat) : (T290 N).rg i = rg290 i := rfl
theorem T290_jn (N : Nat) (i : Nat) : (T290 N).jn i = jn290 i := rfl
theorem T290_fuel (N : Nat) : (T290 N).fuel = N := rfl
noncomputable def c290_3 : Code := cut [true, true, false, true, true, true] (Tryz.f290.body.getD .skip)
theorem c290_3_at {N : Nat} {Q : X → St → Option (Vals [i3])} {e : List LV} {h : List Blk} : runT tt Γ290 (T290 N) c290_3 Q ⟨e, h⟩ = runT tt Γ290 (T290 N) (cut [true, true, false, true, true, true] (Tryz.f290.body.getD .skip)) Q ⟨e, h⟩ := rfl
theorem r290_l3 (N : Nat) (v2 : Int) (v3 : Int) (v4 : Int) (v6 : List (Val (.int .i64))) (v7 : Int) (v8 : Bool) (v9 : List (Val (.int .i64))) (v10 : Int) (v11 : Bool) {k0 : Unit → Option (Vals [i3])} {Q : X → St → Option (Vals [i3])} {c : Code} (hc : c = c290_3) (hret : ∀ st, Q .ret st = retS tt true [i3] [.tmp 4] st) (h0 : Q (.exit 0) ⟨[u, u, u, u, u, u, u, u, u, u, u, u, u, u, u, u, u, u, u, u, u, u, u, u, u, u, u, u, u, u, u, u, u, u, u, u, u, u], []⟩ = k0 ()) : ∀ (n : Nat) (v5 : Int), loopR (runT tt Γ290 (T290 N) c) false nl290_3 Q n ⟨[u, u, .one (.ptr 0 0 0), .one (.ptr 1 0 0), u, .one (.int .i64 v2), .one (.int .i64 v3), u, u, u, u, u, u, u, u, .one (.int .i64 v4), .one (.int .i64 v5), u, u, u, u, u, u, u, u, u, u, u, u, u, u, u, u, u, u, u, u, u], [.box [.sl 3 (.int .i64) v6 2, .int .i64 v7, .bool v8], .box [.sl 3 (.int .i64) v9 2, .int .i64 v10, .bool v11]]⟩ = m290_l3 N v2 v3 v4 v6 v7 v8 v9 v10 v11 k0 n v5 := by
  subst hc; intro n; induction n with
  | zero => intros; rfl
  | succ n ih =>
    intro v5
    rw [loop_succ, c290_3_at, m290_l3]; unfold Tryz.f290
    simp (maxSteps := 10000000) -implicitDefEqProofs [T290_tr, tr290, T290_lp, lp290, T290_ex, ex290, T290_rg, rg290, T290_jn, jn290, T290_fuel, T290_pins, nl290_3_fix, nl290_3_keep, nl290_3_zero, nx290_0_fix, nx290_0_keep, nx290_0_zero, nr290_1_fix, nr290_1_keep, nr290_1_zero, Γ290_317, Γ290_318, g317, g318, hret, h0, ih]
theorem run290 (N : Nat) (v0 : Val Y108) (v1 : Val Y108) : runT tt Γ290 (T290 N) (Tryz.f290.body.getD .skip) (retR tt true [i3] [.tmp 4]) (entryP [i108, i108] 38 (v0, v1, ())) = m290 N v0 v1 := by
  unfold Tryz.f290
  simp (maxSteps := 10000000) -implicitDefEqProofs [T290_tr, tr290, T290_lp, lp290, T290_ex, ex290, T290_rg, rg290, T290_jn, jn290, T290_fuel, T290_pins, nl290_3_fix, nl290_3_keep, nl290_3_zero, nx290_0_fix, nx290_0_keep, nx290_0_zero, nr290_1_fix, nr290_1_keep, nr290_1_zero, Γ290_317, Γ290_318, g317, g318]
  rewrite [r290_l3 (k0 := (fun (_ : Unit) => some ((0 : Int), ()))) N _ _ _ _ _ _ _ _ _ ?_ ?_ ?_]
  · rewrite [m290]; first | rfl | simp (maxSteps := 10000000) -implicitDefEqProofs []
  · rfl
  · intro; simp only [seqR_ret, blockR_ret, retR_ret, retX_ret]
  · simp (maxSteps := 10000000) -implicitDefEqProofs [T290_tr, tr290, T290_lp, lp290, T290_ex, ex290, T290_rg, rg290, T290_jn, jn290, T290_fuel, T290_pins, nl290_3_fix, nl290_3_keep, nl290_3_zero, nx290_0_fix, nx290_0_keep, nx290_0_zero, nr290_1_fix, nr290_1_keep, nr290_1_zero, Γ290_317, Γ290_318, g317, g318]
theorem t290 (N : Nat) (g h : Nat) (hg : (g : Int) ≠ 0) (hh : (h : Int) ≠ 0) (xs ys : List (Val (.int .i64))) (hl : xs.length = ys.length) (h4 : xs.length ≤ 1048576) (hx : ∀ x ∈ xs, inI x) (hy : ∀ x ∈ ys, inI x) (c c' : Int) (s s' : Bool) : ∀ (k i : Nat), xs.length - i = k → ∀ n, k < n →
    m290_l3 N g h xs.length xs c s ys c' s' (fun _ => some ((0 : Int), ())) n i = some (lexI ((List.drop (α := Int) i xs).map fun x => x.tdiv (g : Int)) ((List.drop (α := Int) i ys).map fun x => x.tdiv (h : Int)), ())
  | 0, i, hi, n + 1, _ => by
    rw [m290_l3, bif_decN (by omega), List.drop_eq_nil_of_le (by omega), List.drop_eq_nil_of_le (by omega)]
    rfl
  | k + 1, i, hi, n + 1, hn => by
    have h1 : i < xs.length := by omega
    have h2 : i < ys.length := by omega
    rw [m290_l3, bif_dec (by omega), chk_pos (by omega), chk_pos hg, chk_pos (by omega), chk_pos hh, getD_atI h1, getD_atI h2, tdiv_in (hx _ (List.getElem_mem h1)), tdiv_in (hy _ (List.getElem_mem h2)), wrap_succ h1 h4]
    rw [List.drop_eq_getElem_cons h1, List.drop_eq_getElem_cons h2, List.map_cons, List.map_cons, lexI]
    generalize hp : Int.tdiv xs[i] (g : Int) = p
    generalize hq : Int.tdiv ys[i] (h : Int) = q
    unfold sgn
    by_cases a1 : p < q
    · simp [a1]
    · by_cases a2 : q < p
      · simp [a1, a2]
      · rw [if_neg a1, if_neg a2, if_neg a1, if_neg a2]
        simp only [decide_true, Bool.not_true, cond_false]
        exact t290 N g h hg hh xs ys hl h4 hx hy c c' s s' k (i + 1) (by omega) n (by omega)
theorem e290 (a b : Val Y108) (h : wayV_pre a b) : ∃ N, m290 N a b = some (wayV a b, ()) := ⟨List.length (α := Val (.int .i64)) a.1 + 1, by
  obtain ⟨ha, hb, hl⟩ := h
  rw [m290, chk_pos (show gSv_pre a from ha), chk_pos (show gSv_pre b from hb)]
  have := t290 (List.length (α := Val (.int .i64)) a.1 + 1) (gS (atm a)) (gS (atm b)) (by have := gS_pos (atm a); omega) (by have := gS_pos (atm b); omega) a.1 b.1 hl (by have := (atom_in ha).1; omega) (okA_in ha) (okA_in hb) a.2.1 b.2.1 a.2.2 b.2.2 _ 0 rfl _ (Nat.lt_succ_self _)
  simp only [List.drop_zero] at this
  exact this⟩
theorem s290 : Sound Tryz.prog 290 g290 := sound_run (tt := tt) (Γ := Γ290) hT (ok_cons s317 (ok_cons s318 ok_nil)) hm (fn := Tryz.f290) Tryz.func290 (c := Tryz.f290.body.getD .skip) (by kernel_rfl) (by kernel_rfl) fun x hx => by
  obtain ⟨N, h⟩ := e290 x.1 x.2.1 hx
  exact ⟨T290 N, p290, noSem_ok _, tb290 N, (run290 N x.1 x.2.1).trans h⟩
def g289 : G := { ps := [i108, i108], rs := [i3], dp := true, pre := fun _ => True, fn := fun x => (cmpV x.1 x.2.1, ()) }
noncomputable def m289 (N : Nat) (v0 : Val Y108) (v1 : Val Y108) : Option (Vals [i3]) := bif (!((isAtom v0) : Bool)) then (some ((2 : Int), ())) else (bif (!((isAtom v1) : Bool)) then (some ((2 : Int), ())) else (bif (!(decide (((v0.1 : List (Val (.int .i64))).length : Int) = ((v1.1 : List (Val (.int .i64))).length : Int)))) then (some ((2 : Int), ())) else (chk (wayV_pre v0 v1) (bif (!(decide (((wayV v0 v1) : Int) = (0 : Int)))) then (some (((wayV v0 v1) : Int), ())) else (chk (gSv_pre v1) (chk (gSv_pre v0) (bif (!(decide (((sgn (IntKind.i64.wrap ((v0.2.1 : Int) * ((gSv v1) : Int))) (IntKind.i64.wrap ((v1.2.1 : Int) * ((gSv v0) : Int)))) : Int) = (0 : Int)))) then (some (((sgn (IntKind.i64.wrap ((v0.2.1 : Int) * ((gSv v1) : Int))) (IntKind.i64.wrap ((v1.2.1 : Int) * ((gSv v0) : Int)))) : Int), ())) else (bif ((v0.2.2 : Bool) == (v1.2.2 : Bool)) then (some ((0 : Int), ())) else (bif (v0.2.2 : Bool) then (some ((1 : Int), ())) else (some ((-1 : Int), ())))))))))))
def Γ289 : Gam := [(279, g279), (290, g290), (317, g317), (318, g318)]
theorem Γ289_279 : Gam.get Γ289 279 = some g279 := rfl
theorem Γ289_290 : Gam.get Γ289 290 = some g290 := rfl
theorem Γ289_317 : Gam.get Γ289 317 = some g317 := rfl
theorem Γ289_318 : Gam.get Γ289 318 = some g318 := rfl
def tr289 : Nat → Tree := fun i => if i = 6 then .quiet 2 (.keep 0 (.keep 1 (.keep 5 (.keep 6 (.keep 7 (.alt 3 (.first 4 (.alt 8 (.quiet 9 (.alt 10 (.quiet 11 .done) .stop)) .stop)) .stop)))))) else .done
def lp289 : Nat → Nm := fun _ => ⟨[], [], false⟩
def jn289 : Nat → Option Jn := fun _ => none
def ex289 : Nat → Option Nm := fun _ => none
def rg289 : Nat → Option Nm := fun _ => none
theorem p289 : plansOk tr289 (Tryz.f289.body.getD .skip) = true := by kernel_rfl
def T289 (N : Nat) : Tab := { tr := tr289, lp := lp289, ex := ex289, rg := rg289, jn := jn289, fuel := N }
theorem T289_pins (N : Nat) : (T289 N).pins = false := rfl
theorem tb289 (N : Nat) : TbOk Tryz.prog (T289 N) := tb_none fun _ => rfl
theorem T289_tr (N : Nat) (i : Nat) : (T289 N).tr i = tr289 i := rfl
theorem T289_lp (N : Nat) (i : Nat) : (T289 N).lp i = lp289 i := rfl
theorem T289_ex (N : Nat) (i : Nat) : (T289 N).ex i = ex289 i := rfl
theorem T289_rg (N : Nat) (i : Nat) : (T289 N).rg i = rg289 i := rfl
theorem T289_jn (N : Nat) (i : Nat) : (T289 N).jn i = jn289 i := rfl
theorem T289_fuel (N : Nat) : (T289 N).fuel = N := rfl
theorem run289 (N : Nat) (v0 : Val Y108) (v1 : Val Y108) : runT tt Γ289 (T289 N) (Tryz.f289.body.getD .skip) (retR tt true [i3] [.tmp 4]) (entryP [i108, i108] 51 (v0, v1, ())) = m289 N v0 v1 := by
  rw [m289]; unfold Tryz.f289
  simp (maxSteps := 10000000) -implicitDefEqProofs [T289_tr, tr289, T289_lp, lp289, T289_ex, ex289, T289_rg, rg289, T289_jn, jn289, T289_fuel, T289_pins, Γ289_279, Γ289_290, Γ289_317, Γ289_318, g279, g290, g317, g318]
  try rfl
theorem e289 (a b : Val Y108) : ∃ N, m289 N a b = some (cmpV a b, ()) := ⟨0, by
  rw [m289, cmpV]
  cases ha : isAtom a with
  | false => simp
  | true =>
    cases hb : isAtom b with
    | false => simp
    | true =>
      by_cases hl : List.length (α := Int) a.1 = List.length (α := Int) b.1
      · have hl' : ((List.length (α := Val (.int .i64)) a.1 : Nat) : Int) = (List.length (α := Val (.int .i64)) b.1 : Nat) := by exact_mod_cast hl
        have h1 := okA_c ha
        have h2 := okA_c hb
        have g1 := gS_le ha
        have g2 := gS_le hb
        have p1 := gS_pos (atm a)
        have p2 := gS_pos (atm b)
        simp only [hl, decide_true, Bool.and_self, cond_true, Bool.not_true, cond_false]
        rw [chk_pos (show wayV_pre a b from ⟨ha, hb, hl⟩), chk_pos (show gSv_pre b from hb), chk_pos (show gSv_pre a from ha)]
        rw [mul_in h1 ⟨by unfold gSv; omega, g2⟩, mul_in h2 ⟨by unfold gSv; omega, g1⟩, sgn_sgI]
        have e1 : sgI (a.2.1 * gSv b - b.2.1 * gSv a) = strA (atm a) (atm b) := rfl
        rw [e1]
        unfold cmpA wayV
        by_cases w0 : way (atm a) (atm b) = 0
        · by_cases s0 : strA (atm a) (atm b) = 0
          · simp only [w0, s0, decide_true, Bool.not_true, cond_false, if_true]
            unfold stc
            cases a.2.2 <;> cases b.2.2 <;> rfl
          · simp [w0, s0]
        · simp [w0]
      · have hl' : ¬ ((List.length (α := Val (.int .i64)) a.1 : Nat) : Int) = (List.length (α := Val (.int .i64)) b.1 : Nat) := by exact_mod_cast hl
        simp only [hl, decide_false, Bool.and_false, cond_false, Bool.not_true]
        rw [bif_not, bif_decN hl']⟩
theorem s289 : Sound Tryz.prog 289 g289 := sound_run (tt := tt) (Γ := Γ289) hT (ok_cons s279 (ok_cons s290 (ok_cons s317 (ok_cons s318 ok_nil)))) hm (fn := Tryz.f289) Tryz.func289 (c := Tryz.f289.body.getD .skip) (by kernel_rfl) (by kernel_rfl) fun x hx => by
  obtain ⟨N, h⟩ := e289 x.1 x.2.1
  exact ⟨T289 N, p289, noSem_ok _, tb289 N, (run289 N x.1 x.2.1).trans h⟩
def noneC (d : Int) : Val Y33 := (d, [(List.replicate d.toNat (0 : Int), (1 : Int), false)])
def noneC_pre (d : Int) : Prop := 0 ≤ d ∧ d ≤ 1048576
def idL (l : List (Val (.int .i64))) : List (Val (.int .i64)) := l
def idL_pre (l : List (Val (.int .i64))) : Prop := l.length ≤ 1048576
def idA (a : Val Y108) : Val Y108 := a
def idA_pre (a : Val Y108) : Prop := List.length (α := Val (.int .i64)) a.1 ≤ 1048576
def g213 : G := { ps := [i3], rs := [i33], dp := true, pre := fun x => noneC_pre x.1, fn := fun x => (noneC x.1, ()) }
def g238 : G := { ps := [i25], rs := [i25], dp := true, pre := fun x => idL_pre x.1, fn := fun x => (idL x.1, ()) }
noncomputable def m213 (N : Nat) (v0 : Int) : Option (Vals [i33]) := chk (0 ≤ v0 ∧ v0 ≤ v0 ∧ v0 ≤ 1048576) (some ((v0, ([((List.replicate v0.toNat (dflt (.int .i64))), (1 : Int), false)] : List (Val Y108))), ()))
def Γ213 : Gam := []
def tr213 : Nat → Tree := fun _ => .done
def lp213 : Nat → Nm := fun _ => ⟨[], [], false⟩
def jn213 : Nat → Option Jn := fun _ => none
def ex213 : Nat → Option Nm := fun _ => none
def rg213 : Nat → Option Nm := fun _ => none
theorem p213 : plansOk tr213 (Tryz.f213.body.getD .skip) = true := by kernel_rfl
def T213 (N : Nat) : Tab := { tr := tr213, lp := lp213, ex := ex213, rg := rg213, jn := jn213, fuel := N }
theorem T213_pins (N : Nat) : (T213 N).pins = false := rfl
theorem tb213 (N : Nat) : TbOk Tryz.prog (T213 N) := tb_none fun _ => rfl
theorem T213_tr (N : Nat) (i : Nat) : (T213 N).tr i = tr213 i := rfl
theorem T213_lp (N : Nat) (i : Nat) : (T213 N).lp i = lp213 i := rfl
theorem T213_ex (N : Nat) (i : Nat) : (T213 N).ex i = ex213 i := rfl
theorem T213_rg (N : Nat) (i : Nat) : (T213 N).rg i = rg213 i := rfl
theorem T213_jn (N : Nat) (i : Nat) : (T213 N).jn i = jn213 i := rfl
theorem T213_fuel (N : Nat) : (T213 N).fuel = N := rfl
theorem run213 (N : Nat) (v0 : Int) : runT tt Γ213 (T213 N) (Tryz.f213.body.getD .skip) (retR tt true [i33] [.cell 2 33]) (entryP [i3] 9 (v0, ())) = m213 N v0 := by
  rw [m213]; unfold Tryz.f213
  simp (maxSteps := 10000000) -implicitDefEqProofs [T213_tr, tr213, T213_lp, lp213, T213_ex, ex213, T213_rg, rg213, T213_jn, jn213, T213_fuel, T213_pins]
  try rfl
noncomputable def m238 (N : Nat) (v0 : List (Val (.int .i64))) : Option (Vals [i25]) := chk (([] : List (Val (.int .i64))).length + v0.length ≤ 1048576) (some ((([] : List (Val (.int .i64))) ++ v0), ()))
def Γ238 : Gam := []
def tr238 : Nat → Tree := fun _ => .done
def lp238 : Nat → Nm := fun _ => ⟨[], [], false⟩
def jn238 : Nat → Option Jn := fun _ => none
def ex238 : Nat → Option Nm := fun _ => none
def rg238 : Nat → Option Nm := fun _ => none
theorem p238 : plansOk tr238 (Tryz.f238.body.getD .skip) = true := by kernel_rfl
def T238 (N : Nat) : Tab := { tr := tr238, lp := lp238, ex := ex238, rg := rg238, jn := jn238, fuel := N }
theorem T238_pins (N : Nat) : (T238 N).pins = false := rfl
theorem tb238 (N : Nat) : TbOk Tryz.prog (T238 N) := tb_none fun _ => rfl
theorem T238_tr (N : Nat) (i : Nat) : (T238 N).tr i = tr238 i := rfl
theorem T238_lp (N : Nat) (i : Nat) : (T238 N).lp i = lp238 i := rfl
theorem T238_ex (N : Nat) (i : Nat) : (T238 N).ex i = ex238 i := rfl
theorem T238_rg (N : Nat) (i : Nat) : (T238 N).rg i = rg238 i := rfl
theorem T238_jn (N : Nat) (i : Nat) : (T238 N).jn i = jn238 i := rfl
theorem T238_fuel (N : Nat) : (T238 N).fuel = N := rfl
theorem run238 (N : Nat) (v0 : List (Val (.int .i64))) : runT tt Γ238 (T238 N) (Tryz.f238.body.getD .skip) (retR tt true [i25] [.tmp 2]) (entryP [i25] 6 (v0, ())) = m238 N v0 := by
  rw [m238]; unfold Tryz.f238
  simp (maxSteps := 10000000) -implicitDefEqProofs [T238_tr, tr238, T238_lp, lp238, T238_ex, ex238, T238_rg, rg238, T238_jn, jn238, T238_fuel, T238_pins]
  try rfl
theorem e213 (d : Int) (h : noneC_pre d) : ∃ N, m213 N d = some (noneC d, ()) := ⟨0, by
  rw [m213, chk_pos ⟨h.1, Int.le_refl _, h.2⟩]; rfl⟩
theorem e238 (l : List (Val (.int .i64))) (h : idL_pre l) : ∃ N, m238 N l = some (idL l, ()) := ⟨0, by
  rw [m238, chk_pos (by simpa [idL_pre] using h)]; rfl⟩
theorem s213 : Sound Tryz.prog 213 g213 := sound_run (tt := tt) (Γ := Γ213) hT ok_nil hm (fn := Tryz.f213) Tryz.func213 (c := Tryz.f213.body.getD .skip) (by kernel_rfl) (by kernel_rfl) fun x hx => by
  obtain ⟨N, h⟩ := e213 x.1 hx
  exact ⟨T213 N, p213, noSem_ok _, tb213 N, (run213 N x.1).trans h⟩
theorem s238 : Sound Tryz.prog 238 g238 := sound_run (tt := tt) (Γ := Γ238) hT ok_nil hm (fn := Tryz.f238) Tryz.func238 (c := Tryz.f238.body.getD .skip) (by kernel_rfl) (by kernel_rfl) fun x hx => by
  obtain ⟨N, h⟩ := e238 x.1 hx
  exact ⟨T238 N, p238, noSem_ok _, tb238 N, (run238 N x.1).trans h⟩
def g236 : G := { ps := [i108], rs := [i108], dp := true, pre := fun x => idA_pre x.1, fn := fun x => (idA x.1, ()) }
noncomputable def m236 (N : Nat) (v0 : Val Y108) : Option (Vals [i108]) := chk (idL_pre (v0.1 : List (Val (.int .i64)))) (some ((((idL (v0.1 : List (Val (.int .i64)))) : List (Val (.int .i64))), (v0.2.1 : Int), (v0.2.2 : Bool)), ()))
def Γ236 : Gam := [(238, g238)]
theorem Γ236_238 : Gam.get Γ236 238 = some g238 := rfl
def nr236_1 : Nm := ⟨[false, false, true], [], false⟩
theorem nr236_1_zero : nr236_1.zero = false := rfl
theorem nr236_1_fix : nr236_1.fix = [] := rfl
theorem nr236_1_keep : nr236_1.keep = [false, false, true] := rfl
def tr236 : Nat → Tree := fun i => if i = 1 then .quiet 0 (.quiet 1 (.alt 2 (.quiet 3 (.quiet 4 (.quiet 5 (.quiet 6 (.quiet 7 (.alt 8 .done .stop)))))) (.alt 3 (.alt 2 (.quiet 4 (.quiet 5 (.quiet 6 (.quiet 7 (.alt 8 .done .stop))))) (.alt 4 (.alt 2 (.quiet 5 (.quiet 6 (.quiet 7 (.alt 8 .done .stop)))) (.alt 5 (.alt 2 (.quiet 6 (.quiet 7 (.alt 8 .done .stop))) (.alt 6 (.alt 2 (.quiet 7 (.alt 8 .done .stop)) .stop) .stop)) .stop)) (.alt 5 (.alt 2 (.quiet 4 (.quiet 6 (.quiet 7 (.alt 8 .done .stop)))) (.alt 4 (.alt 2 (.quiet 6 (.quiet 7 (.alt 8 .done .stop))) (.alt 6 (.alt 2 (.quiet 7 (.alt 8 .done .stop)) .stop) .stop)) (.alt 6 (.alt 2 (.quiet 4 (.quiet 7 (.alt 8 .done .stop))) (.alt 4 (.alt 2 (.quiet 7 (.alt 8 .done .stop)) .stop) .stop)) .stop))) .stop))) (.alt 5 (.alt 2 (.quiet 3 (.quiet 4 (.quiet 6 (.quiet 7 (.alt 8 .done .stop))))) (.alt 3 (.alt 2 (.quiet 4 (.quiet 6 (.quiet 7 (.alt 8 .done .stop)))) (.alt 4 (.alt 2 (.quiet 6 (.quiet 7 (.alt 8 .done .stop))) (.alt 6 (.alt 2 (.quiet 7 (.alt 8 .done .stop)) .stop) .stop)) (.alt 6 (.alt 2 (.quiet 4 (.quiet 7 (.alt 8 .done .stop))) (.alt 4 (.alt 2 (.quiet 7 (.alt 8 .done .stop)) .stop) .stop)) .stop))) (.alt 6 (.alt 2 (.quiet 3 (.quiet 4 (.quiet 7 (.alt 8 .done .stop)))) (.alt 3 (.alt 2 (.quiet 4 (.quiet 7 (.alt 8 .done .stop))) (.alt 4 (.alt 2 (.quiet 7 (.alt 8 .done .stop)) .stop) .stop)) .stop)) .stop))) .stop)))) else .done
def lp236 : Nat → Nm := fun _ => ⟨[], [], false⟩
def jn236 : Nat → Option Jn := fun _ => none
def ex236 : Nat → Option Nm := fun _ => none
def rg236 : Nat → Option Nm := fun i => if i = 1 then some nr236_1 else none
theorem p236 : plansOk tr236 (Tryz.f236.body.getD .skip) = true := by kernel_rfl
def T236 (N : Nat) : Tab := { tr := tr236, lp := lp236, ex := ex236, rg := rg236, jn := jn236, fuel := N }
theorem T236_pins (N : Nat) : (T236 N).pins = false := rfl
theorem tb236 (N : Nat) : TbOk Tryz.prog (T236 N) := tb_none fun _ => rfl
theorem T236_tr (N : Nat) (i : Nat) : (T236 N).tr i = tr236 i := rfl
theorem T236_lp (N : Nat) (i : Nat) : (T236 N).lp i = lp236 i := rfl
theorem T236_ex (N : Nat) (i : Nat) : (T236 N).ex i = ex236 i := rfl
theorem T236_rg (N : Nat) (i : Nat) : (T236 N).rg i = rg236 i := rfl
theorem T236_jn (N : Nat) (i : Nat) : (T236 N).jn i = jn236 i := rfl
theorem T236_fuel (N : Nat) : (T236 N).fuel = N := rfl
theorem run236 (N : Nat) (v0 : Val Y108) : runT tt Γ236 (T236 N) (Tryz.f236.body.getD .skip) (retR tt true [i108] [.cell 2 108]) (entryP [i108] 11 (v0, ())) = m236 N v0 := by
  rw [m236]; unfold Tryz.f236
  simp (maxSteps := 10000000) -implicitDefEqProofs [T236_tr, tr236, T236_lp, lp236, T236_ex, ex236, T236_rg, rg236, T236_jn, jn236, T236_fuel, T236_pins, nr236_1_fix, nr236_1_keep, nr236_1_zero, Γ236_238, g238]
  try rfl
theorem e236 (a : Val Y108) (h : idA_pre a) : ∃ N, m236 N a = some (idA a, ()) := ⟨0, by
  rw [m236, chk_pos (show idL_pre a.1 from h)]; rfl⟩
theorem s236 : Sound Tryz.prog 236 g236 := sound_run (tt := tt) (Γ := Γ236) hT (ok_cons s238 ok_nil) hm (fn := Tryz.f236) Tryz.func236 (c := Tryz.f236.body.getD .skip) (by kernel_rfl) (by kernel_rfl) fun x hx => by
  obtain ⟨N, h⟩ := e236 x.1 hx
  exact ⟨T236 N, p236, noSem_ok _, tb236 N, (run236 N x.1).trans h⟩
end Go.T
