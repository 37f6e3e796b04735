/- Placing cells at variables. -/
import Derived.Test.YtkjiecjpdbpghaaA2
import Derived.Test.YtkjiecjpdbpghaaA3
set_option linter.unusedSimpArgs false
set_option linter.unusedVariables false
namespace Go.T
open Go Go.Proofs
set_option maxHeartbeats 4000000
set_option maxRecDepth 100000
theorem app_fold {ρ α β : Type} {f : α → β} {k : List β → Option ρ} : ∀ (xs : List α) (i : Nat) (s : List β), s.length + xs.length ≤ 1048576 → foldK (fun _ x (s : List β) K => chk (s.length + [f x].length ≤ 1048576) (K (s ++ [f x]))) i xs s k = k (s ++ xs.map f)
  | [], _, s, _ => by rw [foldK]; simp
  | x :: xs, i, s, h => by
    simp only [List.length_cons] at h
    rw [foldK, chk_pos (by simp; omega)]; dsimp only; rw [app_fold xs (i + 1) _ (by simp; omega)]
    simp
theorem tdiv_in {x : Int} {g : Nat} (h : inI x) : IntKind.i64.wrap (x.tdiv (g : Int)) = x.tdiv (g : Int) := by
  have : (x.tdiv (g : Int)).natAbs ≤ x.natAbs := by
    rw [Int.natAbs_tdiv]; exact Nat.div_le_self _ _
  unfold inI at h
  exact wrap64 (by omega) (by omega)
def mkAtomG (co : List (Val (.int .i64))) (k : Int) (s : Bool) (g : Nat) : Val Y106 × Bool :=
  bif isAtom (List.map (α := Int) (fun x => x.tdiv (g : Int)) co, k.tdiv (g : Int), s) then ((List.map (α := Int) (fun x => x.tdiv (g : Int)) co, k.tdiv (g : Int), s), true) else (([], (0 : Int), false), false)
def mkAtom (co : List (Val (.int .i64))) (k : Int) (s : Bool) : Val Y106 × Bool := mkAtomG co k s (max 1 (gL k.natAbs co))
def mkAtom_pre (co : List (Val (.int .i64))) (k : Int) (_ : Bool) : Prop := gcdL_pre co k
theorem mkAtom_eq (co : List (Val (.int .i64))) (k : Int) (s : Bool) (g : Nat) (hg : g = max 1 (gL k.natAbs co)) : (bif !isAtom (List.map (α := Int) (fun x => x.tdiv (g : Int)) co, k.tdiv (g : Int), s) then some ((([] : List (Val (.int .i64))), (0 : Int), false), false, ()) else some ((List.map (α := Int) (fun x => x.tdiv (g : Int)) co, k.tdiv (g : Int), s), true, ())) = some ((mkAtom co k s).1, (mkAtom co k s).2, ()) := by
  rw [mkAtom, ← hg, mkAtomG, bif_not]
  cases isAtom (List.map (α := Int) (fun x => x.tdiv (g : Int)) co, k.tdiv (g : Int), s) <;> rfl
-- spec.l2Atom
noncomputable def m66_l4 (N : Nat) (v3 : List (Val (.int .i64))) (v4 : Int) (v6 : Int) (v7 : Bool) (v8 : Int) (v9 : Bool) (k0 : (List (Val (.int .i64))) → Option (Vals [i106, i4])) : Nat → Int → (List (Val (.int .i64))) → Option (Vals [i106, i4])
  | 0, _, _ => none
  | n + 1, v5, v10 => bif (decide (v5 < (v3.length : Int))) then (chk (0 ≤ v5 ∧ v5 < (v3.length : Int)) (chk (v4 ≠ 0) (chk (v10.length + ([(IntKind.i64.wrap (((v3.getD v5.toNat (dflt (.int .i64))) : Int).tdiv v4))] : List (Val (.int .i64))).length ≤ 1048576) (m66_l4 N v3 v4 v6 v7 v8 v9 k0 n (IntKind.i64.wrap (v5 + (1 : Int))) (v10 ++ ([(IntKind.i64.wrap (((v3.getD v5.toNat (dflt (.int .i64))) : Int).tdiv v4))] : List (Val (.int .i64)))))))) else (k0 v10)
noncomputable def m66 (N : Nat) (v0 : List (Val (.int .i64))) (v1 : Int) (v2 : Bool) : Option (Vals [i106, i4]) := chk (gcdL_pre v0 v1) (chk ((max (1 : Int) ((gcdL v0 v1) : Int)) ≠ 0) (m66_l4 N v0 (max (1 : Int) ((gcdL v0 v1) : Int)) (0 : Int) false (IntKind.i64.wrap (v1.tdiv (max (1 : Int) ((gcdL v0 v1) : Int)))) v2 (fun (v12 : List (Val (.int .i64))) => bif (!((isAtom (v12, (IntKind.i64.wrap (v1.tdiv (max (1 : Int) ((gcdL v0 v1) : Int)))), v2)) : Bool)) then (some ((([] : List (Val (.int .i64))), (0 : Int), false), false, ())) else (some ((v12, (IntKind.i64.wrap (v1.tdiv (max (1 : Int) ((gcdL v0 v1) : Int)))), v2), true, ()))) N (0 : Int) ([] : List (Val (.int .i64)))))
def Γ66 : Gam := [(127, g127), (128, g128)]
theorem Γ66_127 : Gam.get Γ66 127 = some g127 := rfl
theorem Γ66_128 : Gam.get Γ66 128 = some g128 := rfl
def nl66_4 : Nm := ⟨[true, false, false, false, false, false, true, false, true, true, true], [.box 9 0 3 (.int .i64)]⟩
theorem nl66_4_fix : nl66_4.fix = [.box 9 0 3 (.int .i64)] := rfl
theorem nl66_4_keep : nl66_4.keep = [true, false, false, false, false, false, true, false, true, true, true] := rfl
def nx66_0 : Nm := ⟨[false, false, false, false, false, false, true, false, false, true], []⟩
theorem nx66_0_fix : nx66_0.fix = [] := rfl
theorem nx66_0_keep : nx66_0.keep = [false, false, false, false, false, false, true, false, false, true] := rfl
def nr66_6 : Nm := ⟨[true, false, false, false, false, false, true, false, true, true, true], []⟩
theorem nr66_6_fix : nr66_6.fix = [] := rfl
theorem nr66_6_keep : nr66_6.keep = [true, false, false, false, false, false, true, false, true, true, true] := rfl
def tr66 : Nat → Tree := fun i => if i = 6 then .quiet 2 (.quiet 3 (.quiet 4 (.quiet 5 (.quiet 6 (.quiet 7 (.alt 0 (.alt 1 (.alt 8 (.alt 9 (.quiet 10 (.alt 11 .done .stop)) .stop) .stop) (.alt 8 (.quiet 1 (.alt 9 (.quiet 10 (.alt 11 .done .stop)) .stop)) .stop)) (.alt 8 (.quiet 0 (.quiet 1 (.alt 9 (.quiet 10 (.alt 11 .done .stop)) .stop))) .stop))))))) else .done
def lp66 : Nat → Nm := fun i => if i = 4 then nl66_4 else ⟨[], []⟩
def ex66 : Nat → Option Nm := fun i => if i = 0 then some nx66_0 else none
def rg66 : Nat → Option Nm := fun i => if i = 6 then some nr66_6 else none
theorem p66 : plansOk tr66 (Try.f66.body.getD .skip) = true := by kernel_rfl
def T66 (N : Nat) : Tab := { tr := tr66, lp := lp66, ex := ex66, rg := rg66, fuel := N }
theorem T66_pins (N : Nat) : (T66 N).pins = false := rfl
theorem T66_tr (N i : Nat) : (T66 N).tr i = tr66 i := rfl
theorem T66_lp (N i : Nat) : (T66 N).lp i = lp66 i := rfl
theorem T66_ex (N i : Nat) : (T66 N).ex i = ex66 i := rfl
theorem T66_rg (N i : Nat) : (T66 N).rg i = rg66 i := rfl
theorem T66_fuel (N : Nat) : (T66 N).fuel = N := rfl
noncomputable def c66_4 : Code := cut [true, true, true, false, true, true, true] (Try.f66.body.getD .skip)
theorem c66_4_at {N : Nat} {Q : X → St → Option (Vals [i106, i4])} {e : List LV} {h : List Blk} : runT tt Γ66 (T66 N) c66_4 Q ⟨e, h⟩ = runT tt Γ66 (T66 N) (cut [true, true, true, false, true, true, true] (Try.f66.body.getD .skip)) Q ⟨e, h⟩ := rfl
theorem r66_l4 (N : Nat) (v3 : List (Val (.int .i64))) (v4 : Int) (v6 : Int) (v7 : Bool) (v8 : Int) (v9 : Bool) {k0 : (List (Val (.int .i64))) → Option (Vals [i106, i4])} {Q : X → St → Option (Vals [i106, i4])} {c : Code} (hc : c = c66_4) (hret : ∀ st, Q .ret st = retS tt true [i106, i4] [.cell 6 106, .tmp 7] st) (h0 : ∀ (v11 : List (Val (.int .i64))), Q (.exit 0) ⟨[u, u, u, u, u, u, .one (.ptr 0 0 0), u, u, .one (.ptr 1 0 0), u, u, u, u, u, u, u, u, u, u, u, u, u, u, u, u, u, u, u, u, u, u, u, u, u, u, u, u, u, u, u, u], [.box [.nils, .int .i64 v6, .bool v7], .box [.own 2, .int .i64 v8, .bool v9], .row 3 (.int .i64) v11 true true 0]⟩ = k0 v11) : ∀ (n : Nat) (v5 : Int) (v10 : List (Val (.int .i64))), loopR (runT tt Γ66 (T66 N) c) false nl66_4 Q n ⟨[.one (.sl 3 (.int .i64) v3 3), u, u, u, u, u, .one (.ptr 0 0 0), u, .one (.int .i64 v4), .one (.ptr 1 0 0), .one (.int .i64 v5), u, u, u, u, u, u, u, u, u, u, u, u, u, u, u, u, u, u, u, u, u, u, u, u, u, u, u, u, u, u, u], [.box [.nils, .int .i64 v6, .bool v7], .box [.own 2, .int .i64 v8, .bool v9], .row 3 (.int .i64) v10 true true 0]⟩ = m66_l4 N v3 v4 v6 v7 v8 v9 k0 n v5 v10 := by
  subst hc; intro n; induction n with
  | zero => intros; rfl
  | succ n ih =>
    intro v5 v10
    rw [loop_succ, c66_4_at, m66_l4]; unfold Try.f66
    simp (maxSteps := 10000000) -implicitDefEqProofs [T66_tr, tr66, T66_lp, lp66, T66_ex, ex66, T66_rg, rg66, T66_fuel, T66_pins, nl66_4_fix, nl66_4_keep, nx66_0_fix, nx66_0_keep, nr66_6_fix, nr66_6_keep, Γ66_127, Γ66_128, g127, g128, hret, h0, ih]
theorem run66 (N : Nat) (v0 : List (Val (.int .i64))) (v1 : Int) (v2 : Bool) : runT tt Γ66 (T66 N) (Try.f66.body.getD .skip) (retR tt true [i106, i4] [.cell 6 106, .tmp 7]) (entryP [i32, i3, i4] 42 (v0, v1, v2, ())) = m66 N v0 v1 v2 := by
  unfold Try.f66
  simp (maxSteps := 10000000) -implicitDefEqProofs [T66_tr, tr66, T66_lp, lp66, T66_ex, ex66, T66_rg, rg66, T66_fuel, T66_pins, nl66_4_fix, nl66_4_keep, nx66_0_fix, nx66_0_keep, nr66_6_fix, nr66_6_keep, Γ66_127, Γ66_128, g127, g128]
  rewrite [r66_l4 (k0 := (fun (v12 : List (Val (.int .i64))) => bif (!((isAtom (v12, (IntKind.i64.wrap (v1.tdiv (max (1 : Int) ((gcdL v0 v1) : Int)))), v2)) : Bool)) then (some ((([] : List (Val (.int .i64))), (0 : Int), false), false, ())) else (some ((v12, (IntKind.i64.wrap (v1.tdiv (max (1 : Int) ((gcdL v0 v1) : Int)))), v2), true, ())))) N _ _ _ _ _ _ ?_ ?_ ?_]
  · rewrite [m66]; first | rfl | simp (maxSteps := 10000000) -implicitDefEqProofs []
  · rfl
  · intro; simp only [seqR_ret, blockR_ret, retR_ret, retX_ret]
  · intro v12; simp (maxSteps := 10000000) -implicitDefEqProofs [T66_tr, tr66, T66_lp, lp66, T66_ex, ex66, T66_rg, rg66, T66_fuel, T66_pins, nl66_4_fix, nl66_4_keep, nx66_0_fix, nx66_0_keep, nr66_6_fix, nr66_6_keep, Γ66_127, Γ66_128, g127, g128]
-- impl.makeOf
noncomputable def m70_l6 (N : Nat) (v3 : Int) (v4 : List (Val (.int .i64))) (v5 : Int) (v7 : Int) (v8 : Bool) (v9 : Int) (v10 : Bool) (k0 : (List (Val (.int .i64))) → Option (Vals [i106, i4])) : Nat → Int → (List (Val (.int .i64))) → Option (Vals [i106, i4])
  | 0, _, _ => none
  | n + 1, v6, v11 => bif (decide (v6 < v5)) then (chk (0 ≤ v6 ∧ v6 < (v4.length : Int)) (chk (v3 ≠ 0) (chk (0 ≤ v6 ∧ v6 < (v11.length : Int)) (chk (v6.toNat < v11.length) (m70_l6 N v3 v4 v5 v7 v8 v9 v10 k0 n (IntKind.i64.wrap (v6 + (1 : Int))) (v11.set v6.toNat (IntKind.i64.wrap (((v4.getD v6.toNat (dflt (.int .i64))) : Int).tdiv v3)))))))) else (k0 v11)
noncomputable def m70 (N : Nat) (v0 : List (Val (.int .i64))) (v1 : Int) (v2 : Bool) : Option (Vals [i106, i4]) := chk (gcdM_pre v0) (chk (gcdI_pre ((gcdM v0) : Int) v1) (bif (decide (((gcdI ((gcdM v0) : Int) v1) : Int) = (0 : Int))) then (chk ((1 : Int) ≠ 0) (chk (0 ≤ (v0.length : Int) ∧ (v0.length : Int) ≤ (v0.length : Int) ∧ (v0.length : Int) ≤ 1048576) (m70_l6 N (1 : Int) v0 (v0.length : Int) (0 : Int) false (IntKind.i64.wrap (v1.tdiv (1 : Int))) v2 (fun (v13 : List (Val (.int .i64))) => bif (!((isAtom (v13, (IntKind.i64.wrap (v1.tdiv (1 : Int))), v2)) : Bool)) then (some ((([] : List (Val (.int .i64))), (0 : Int), false), false, ())) else (some ((v13, (IntKind.i64.wrap (v1.tdiv (1 : Int))), v2), true, ()))) N (0 : Int) (List.replicate (v0.length : Int).toNat (dflt (.int .i64)))))) else (chk (((gcdI ((gcdM v0) : Int) v1) : Int) ≠ 0) (chk (0 ≤ (v0.length : Int) ∧ (v0.length : Int) ≤ (v0.length : Int) ∧ (v0.length : Int) ≤ 1048576) (m70_l6 N ((gcdI ((gcdM v0) : Int) v1) : Int) v0 (v0.length : Int) (0 : Int) false (IntKind.i64.wrap (v1.tdiv ((gcdI ((gcdM v0) : Int) v1) : Int))) v2 (fun (v4 : List (Val (.int .i64))) => bif (!((isAtom (v4, (IntKind.i64.wrap (v1.tdiv ((gcdI ((gcdM v0) : Int) v1) : Int))), v2)) : Bool)) then (some ((([] : List (Val (.int .i64))), (0 : Int), false), false, ())) else (some ((v4, (IntKind.i64.wrap (v1.tdiv ((gcdI ((gcdM v0) : Int) v1) : Int))), v2), true, ()))) N (0 : Int) (List.replicate (v0.length : Int).toNat (dflt (.int .i64))))))))
def Γ70 : Gam := [(130, g130), (131, g131), (132, g132)]
theorem Γ70_130 : Gam.get Γ70 130 = some g130 := rfl
theorem Γ70_131 : Gam.get Γ70 131 = some g131 := rfl
theorem Γ70_132 : Gam.get Γ70 132 = some g132 := rfl
def nl70_6 : Nm := ⟨[false, false, false, false, false, false, true, false, true, true, false, false, false, false, false, false, false, false, false, false, false, false, false, false, false, false, true, true, true], []⟩
theorem nl70_6_fix : nl70_6.fix = [] := rfl
theorem nl70_6_keep : nl70_6.keep = [false, false, false, false, false, false, true, false, true, true, false, false, false, false, false, false, false, false, false, false, false, false, false, false, false, false, true, true, true] := rfl
def nx70_0 : Nm := ⟨[false, false, false, false, false, false, true, false, false, true], []⟩
theorem nx70_0_fix : nx70_0.fix = [] := rfl
theorem nx70_0_keep : nx70_0.keep = [false, false, false, false, false, false, true, false, false, true] := rfl
def nr70_4 : Nm := ⟨[true, false, false, false, false, false, true, false, true, true], []⟩
theorem nr70_4_fix : nr70_4.fix = [] := rfl
theorem nr70_4_keep : nr70_4.keep = [true, false, false, false, false, false, true, false, true, true] := rfl
def tr70 : Nat → Tree := fun i => if i = 4 then .first 0 (.first 3 (.first 4 (.first 5 (.first 6 (.grow 1 (.alt 2 (.first 7 (.alt 8 (.alt 9 .done .stop) .stop)) (.alt 8 (.alt 2 (.quiet 7 (.alt 9 .done .stop)) .stop) .stop))))))) else if i = 8 then .quiet 0 (.quiet 1 (.quiet 2 (.quiet 3 (.quiet 4 (.quiet 5 (.quiet 6 (.alt 7 .done .stop))))))) else .done
def lp70 : Nat → Nm := fun i => if i = 6 then nl70_6 else ⟨[], []⟩
def ex70 : Nat → Option Nm := fun i => if i = 0 then some nx70_0 else none
def rg70 : Nat → Option Nm := fun i => if i = 4 then some nr70_4 else none
theorem p70 : plansOk tr70 (Try.f70.body.getD .skip) = true := by kernel_rfl
def T70 (N : Nat) : Tab := { tr := tr70, lp := lp70, ex := ex70, rg := rg70, fuel := N }
theorem T70_pins (N : Nat) : (T70 N).pins = false := rfl
theorem T70_tr (N i : Nat) : (T70 N).tr i = tr70 i := rfl
theorem T70_lp (N i : Nat) : (T70 N).lp i = lp70 i := rfl
theorem T70_ex (N i : Nat) : (T70 N).ex i = ex70 i := rfl
theorem T70_rg (N i : Nat) : (T70 N).rg i = rg70 i := rfl
theorem T70_fuel (N : Nat) : (T70 N).fuel = N := rfl
noncomputable def c70_6 : Code := cut [true, true, true, true, false, true, true, true] (Try.f70.body.getD .skip)
theorem c70_6_at {N : Nat} {Q : X → St → Option (Vals [i106, i4])} {e : List LV} {h : List Blk} : runT tt Γ70 (T70 N) c70_6 Q ⟨e, h⟩ = runT tt Γ70 (T70 N) (cut [true, true, true, true, false, true, true, true] (Try.f70.body.getD .skip)) Q ⟨e, h⟩ := rfl
theorem r70_l6 (N : Nat) (v3 : Int) (v4 : List (Val (.int .i64))) (v5 : Int) (v7 : Int) (v8 : Bool) (v9 : Int) (v10 : Bool) {k0 : (List (Val (.int .i64))) → Option (Vals [i106, i4])} {Q : X → St → Option (Vals [i106, i4])} {c : Code} (hc : c = c70_6) (hret : ∀ st, Q .ret st = retS tt true [i106, i4] [.cell 6 106, .tmp 7] st) (h0 : ∀ (v12 : List (Val (.int .i64))), Q (.exit 0) ⟨[u, u, u, u, u, u, .one (.ptr 0 0 0), u, u, .one (.ptr 1 0 0), u, u, u, u, u, u, u, u, u, u, u, u, u, u, u, u, u, u, u, u, u, u, u, u, u, u, u, u, u, u, u, u, u, u, u, u], [.box [.nils, .int .i64 v7, .bool v8], .box [.own 2, .int .i64 v9, .bool v10], .row 3 (.int .i64) v12 true true 0]⟩ = k0 v12) : ∀ (n : Nat) (v6 : Int) (v11 : List (Val (.int .i64))), loopR (runT tt Γ70 (T70 N) c) false nl70_6 Q n ⟨[u, u, u, u, u, u, .one (.ptr 0 0 0), u, .one (.int .i64 v3), .one (.ptr 1 0 0), u, u, u, u, u, u, u, u, u, u, u, u, u, u, u, u, .one (.sl 3 (.int .i64) v4 3), .one (.int .i64 v5), .one (.int .i64 v6), u, u, u, u, u, u, u, u, u, u, u, u, u, u, u, u, u], [.box [.nils, .int .i64 v7, .bool v8], .box [.own 2, .int .i64 v9, .bool v10], .row 3 (.int .i64) v11 true true 0]⟩ = m70_l6 N v3 v4 v5 v7 v8 v9 v10 k0 n v6 v11 := by
  subst hc; intro n; induction n with
  | zero => intros; rfl
  | succ n ih =>
    intro v6 v11
    rw [loop_succ, c70_6_at, m70_l6]; unfold Try.f70
    simp (maxSteps := 10000000) -implicitDefEqProofs [T70_tr, tr70, T70_lp, lp70, T70_ex, ex70, T70_rg, rg70, T70_fuel, T70_pins, nl70_6_fix, nl70_6_keep, nx70_0_fix, nx70_0_keep, nr70_4_fix, nr70_4_keep, Γ70_130, Γ70_131, Γ70_132, g130, g131, g132, hret, h0, ih]
theorem run70 (N : Nat) (v0 : List (Val (.int .i64))) (v1 : Int) (v2 : Bool) : runT tt Γ70 (T70 N) (Try.f70.body.getD .skip) (retR tt true [i106, i4] [.cell 6 106, .tmp 7]) (entryP [i32, i3, i4] 46 (v0, v1, v2, ())) = m70 N v0 v1 v2 := by
  unfold Try.f70
  simp (maxSteps := 10000000) -implicitDefEqProofs [T70_tr, tr70, T70_lp, lp70, T70_ex, ex70, T70_rg, rg70, T70_fuel, T70_pins, nl70_6_fix, nl70_6_keep, nx70_0_fix, nx70_0_keep, nr70_4_fix, nr70_4_keep, Γ70_130, Γ70_131, Γ70_132, g130, g131, g132]
  rewrite [r70_l6 (k0 := (fun (v13 : List (Val (.int .i64))) => bif (!((isAtom (v13, (IntKind.i64.wrap (v1.tdiv (1 : Int))), v2)) : Bool)) then (some ((([] : List (Val (.int .i64))), (0 : Int), false), false, ())) else (some ((v13, (IntKind.i64.wrap (v1.tdiv (1 : Int))), v2), true, ())))) N _ _ _ _ _ _ _ ?_ ?_ ?_]
  rewrite [r70_l6 (k0 := (fun (v4 : List (Val (.int .i64))) => bif (!((isAtom (v4, (IntKind.i64.wrap (v1.tdiv ((gcdI ((gcdM v0) : Int) v1) : Int))), v2)) : Bool)) then (some ((([] : List (Val (.int .i64))), (0 : Int), false), false, ())) else (some ((v4, (IntKind.i64.wrap (v1.tdiv ((gcdI ((gcdM v0) : Int) v1) : Int))), v2), true, ())))) N _ _ _ _ _ _ _ ?_ ?_ ?_]
  · rewrite [m70]; first | rfl | simp (maxSteps := 10000000) -implicitDefEqProofs []
  · rfl
  · intro; simp only [seqR_ret, blockR_ret, retR_ret, retX_ret]
  · intro v4; simp (maxSteps := 10000000) -implicitDefEqProofs [T70_tr, tr70, T70_lp, lp70, T70_ex, ex70, T70_rg, rg70, T70_fuel, T70_pins, nl70_6_fix, nl70_6_keep, nx70_0_fix, nx70_0_keep, nr70_4_fix, nr70_4_keep, Γ70_130, Γ70_131, Γ70_132, g130, g131, g132]
  · rfl
  · intro; simp only [seqR_ret, blockR_ret, retR_ret, retX_ret]
  · intro v13; simp (maxSteps := 10000000) -implicitDefEqProofs [T70_tr, tr70, T70_lp, lp70, T70_ex, ex70, T70_rg, rg70, T70_fuel, T70_pins, nl70_6_fix, nl70_6_keep, nx70_0_fix, nx70_0_keep, nr70_4_fix, nr70_4_keep, Γ70_130, Γ70_131, Γ70_132, g130, g131, g132]
-- impl.isVariable
noncomputable def m69 (N : Nat) (v0 : Int) : Option (Vals [i4]) := bif (decide ((0 : Int) ≤ v0)) then (some ((decide (v0 < (4 : Int))), ())) else (some (false, ()))
def Γ69 : Gam := []
def tr69 : Nat → Tree := fun _ => .done
def lp69 : Nat → Nm := fun _ => ⟨[], []⟩
def ex69 : Nat → Option Nm := fun _ => none
def rg69 : Nat → Option Nm := fun _ => none
theorem p69 : plansOk tr69 (Try.f69.body.getD .skip) = true := by kernel_rfl
def T69 (N : Nat) : Tab := { tr := tr69, lp := lp69, ex := ex69, rg := rg69, fuel := N }
theorem T69_pins (N : Nat) : (T69 N).pins = false := rfl
theorem T69_tr (N i : Nat) : (T69 N).tr i = tr69 i := rfl
theorem T69_lp (N i : Nat) : (T69 N).lp i = lp69 i := rfl
theorem T69_ex (N i : Nat) : (T69 N).ex i = ex69 i := rfl
theorem T69_rg (N i : Nat) : (T69 N).rg i = rg69 i := rfl
theorem T69_fuel (N : Nat) : (T69 N).fuel = N := rfl
theorem run69 (N : Nat) (v0 : Int) : runT tt Γ69 (T69 N) (Try.f69.body.getD .skip) (retR tt true [i4] [.tmp 2]) (entryP [i3] 9 (v0, ())) = m69 N v0 := by
  rw [m69]; unfold Try.f69
  simp (maxSteps := 10000000) -implicitDefEqProofs [T69_tr, tr69, T69_lp, lp69, T69_ex, ex69, T69_rg, rg69, T69_fuel, T69_pins]
  try rfl
def isVar (x : Int) : Bool := inR x 0 3
def g66 : G := { ps := [i32, i3, i4], rs := [i106, i4], dp := true, pre := fun x => mkAtom_pre x.1 x.2.1 x.2.2.1, fn := fun x => ((mkAtom x.1 x.2.1 x.2.2.1).1, (mkAtom x.1 x.2.1 x.2.2.1).2, ()) }
def g70 : G := { ps := [i32, i3, i4], rs := [i106, i4], dp := true, pre := fun x => mkAtom_pre x.1 x.2.1 x.2.2.1, fn := fun x => ((mkAtom x.1 x.2.1 x.2.2.1).1, (mkAtom x.1 x.2.1 x.2.2.1).2, ()) }
def g69 : G := { ps := [i3], rs := [i4], dp := true, pre := fun _ => True, fn := fun x => (isVar x.1, ()) }
theorem e69 (x : Int) : ∃ N, m69 N x = some (isVar x, ()) := ⟨0, by
  rw [m69]
  unfold isVar inR
  by_cases h1 : 0 ≤ x <;> by_cases h2 : x ≤ 3
  · simp [h1, h2, show x < 4 by omega]
  · simp [h1, h2, show ¬ x < 4 by omega]
  · simp [h1]
  · simp [h1]⟩
theorem s69 : Sound Try.prog 69 g69 := sound_run (tt := tt) (Γ := Γ69) hT ok_nil hm (fn := Try.f69) Try.func69 (c := Try.f69.body.getD .skip) (by kernel_rfl) (by kernel_rfl) fun x hx => by
  obtain ⟨N, h⟩ := e69 x.1
  exact ⟨T69 N, p69, noSem_ok _, (run69 N x.1).trans h⟩
theorem t66 (N : Nat) (co : List (Val (.int .i64))) (g : Nat) (hg1 : (g : Int) ≠ 0) (a : Int) (b : Bool) (c : Int) (s : Bool) (K : List (Val (.int .i64)) → Option (Vals [i106, i4])) (hl : co.length ≤ 1048576) (hx : ∀ x ∈ co, inI x) (n : Nat) (hn : co.length < n) :
    m66_l4 N co (g : Int) a b c s K n 0 [] = K (List.map (α := Int) (fun x => x.tdiv (g : Int)) co) := by
  refine (loop_fold (F := fun n i s' => m66_l4 N co (g : Int) a b c s K n i s') (step := fun _ x (s : List (Val (.int .i64))) K => chk (s.length + [IntKind.i64.wrap (Int.tdiv x (g : Int))].length ≤ 1048576) (K (s ++ [IntKind.i64.wrap (Int.tdiv x (g : Int))]))) (k := K) hl (fun n i s' hi => ?_) (fun n i s' hi => ?_) n _ hn).trans ((app_fold (f := fun x => IntKind.i64.wrap (Int.tdiv x (g : Int))) (k := K) co 0 [] (by simpa using hl)).trans ?_)
  · rw [m66_l4, bif_dec (by omega), chk_pos (by omega), chk_pos hg1, getD_atI hi]
  · rw [m66_l4, bif_decN (by omega)]
  · have e : List.map (fun x => IntKind.i64.wrap (Int.tdiv x (g : Int))) co = List.map (α := Int) (fun x => x.tdiv (g : Int)) co := List.map_congr_left fun x hx' => tdiv_in (hx x hx')
    rw [List.nil_append, e]
theorem e66 (co : List (Val (.int .i64))) (k : Int) (s : Bool) (h : mkAtom_pre co k s) : ∃ N, m66 N co k s = some ((mkAtom co k s).1, (mkAtom co k s).2, ()) := ⟨co.length + 1, by
  obtain ⟨hl, hk, hx⟩ := h
  have hg : max (1 : Int) (gcdL co k) = ((max 1 (gL k.natAbs co) : Nat) : Int) := by unfold gcdL; omega
  rw [m66, chk_pos (show gcdL_pre co k from ⟨hl, hk, hx⟩), hg, chk_pos (by omega), tdiv_in hk]
  generalize hG : max 1 (gL k.natAbs co) = g
  have hg1 : (g : Int) ≠ 0 := by omega
  rw [t66 _ co g hg1 0 false _ s _ hl hx _ (Nat.lt_succ_self _)]
  exact mkAtom_eq co k s g hG.symm⟩
theorem s66 : Sound Try.prog 66 g66 := sound_run (tt := tt) (Γ := Γ66) hT (ok_cons s127 (ok_cons s128 ok_nil)) hm (fn := Try.f66) Try.func66 (c := Try.f66.body.getD .skip) (by kernel_rfl) (by kernel_rfl) fun x hx => by
  obtain ⟨N, h⟩ := e66 x.1 x.2.1 x.2.2.1 hx
  exact ⟨T66 N, p66, noSem_ok _, (run66 N x.1 x.2.1 x.2.2.1).trans h⟩
theorem t70 (N : Nat) (co : List (Val (.int .i64))) (g : Nat) (hg1 : (g : Int) ≠ 0) (a : Int) (b : Bool) (c : Int) (s : Bool) (K : List (Val (.int .i64)) → Option (Vals [i106, i4])) (hl : co.length ≤ 1048576) (hx : ∀ x ∈ co, inI x) (n : Nat) (hn : co.length < n) :
    m70_l6 N (g : Int) co co.length a b c s K n 0 (List.replicate co.length (dflt (.int .i64))) = K (List.map (α := Int) (fun x => x.tdiv (g : Int)) co) := by
  have := copy_loop (xs := List.map (α := Int) (fun x => x.tdiv (g : Int)) co) (F := fun n i s' => m70_l6 N (g : Int) co co.length a b c s K n i s') (k := K) (dflt (.int .i64)) (by simpa using hl) (fun n i s' hi hs => ?_) (fun n i s' hi => ?_) n (by simpa using hn)
  · simpa using this
  · have hi : i < co.length := by simpa using hi
    have hs : s'.length = co.length := by simpa using hs
    rw [m70_l6, bif_dec (by omega), chk_pos (by omega), chk_pos hg1, chk_pos (by omega), chk_pos (by omega), getD_atI hi, tdiv_in (hx _ (List.getElem_mem hi))]
    simp
  · have hi : co.length ≤ i := by simpa using hi
    rw [m70_l6, bif_decN (by omega)]
theorem e70 (co : List (Val (.int .i64))) (k : Int) (s : Bool) (h : mkAtom_pre co k s) : ∃ N, m70 N co k s = some ((mkAtom co k s).1, (mkAtom co k s).2, ()) := ⟨co.length + 1, by
  obtain ⟨hl, hk, hx⟩ := h
  have eg : gcdI (gcdM co) k = ((gL k.natAbs co : Nat) : Int) := by
    unfold gcdI gcdM
    rw [Int.natAbs_natCast, ← gL_gcd, Nat.gcd_zero_left]
  rw [m70, chk_pos (show gcdM_pre co from ⟨hl, hx⟩), chk_pos (show gcdI_pre (gcdM co) k from ⟨gL_in co 0 (by omega) hx, hk⟩), eg, Int.toNat_natCast]
  by_cases h0 : gL k.natAbs co = 0
  · rw [bif_dec (by omega), chk_pos (by decide), chk_pos (chk_len hl)]
    have e1 : ((1 : Nat) : Int) = 1 := rfl
    have := tdiv_in (g := 1) hk
    rw [e1] at this
    rw [this]
    have t := t70 (co.length + 1) co 1 (by decide) 0 false (k.tdiv 1) s (fun v => bif !isAtom (v, k.tdiv 1, s) then some ((([] : List (Val (.int .i64))), (0 : Int), false), false, ()) else some ((v, k.tdiv 1, s), true, ())) hl hx _ (Nat.lt_succ_self _)
    rw [e1] at t
    rw [t]
    exact mkAtom_eq co k s 1 (by omega)
  · rw [bif_decN (by omega), chk_pos (by omega), chk_pos (chk_len hl), tdiv_in hk]
    rw [t70 (co.length + 1) co (gL k.natAbs co) (by omega) 0 false _ s _ hl hx _ (Nat.lt_succ_self _)]
    exact mkAtom_eq co k s _ (by omega)⟩
theorem s70 : Sound Try.prog 70 g70 := sound_run (tt := tt) (Γ := Γ70) hT (ok_cons s130 (ok_cons s131 (ok_cons s132 ok_nil))) hm (fn := Try.f70) Try.func70 (c := Try.f70.body.getD .skip) (by kernel_rfl) (by kernel_rfl) fun x hx => by
  obtain ⟨N, h⟩ := e70 x.1 x.2.1 x.2.2.1 hx
  exact ⟨T70 N, p70, noSem_ok _, (run70 N x.1 x.2.1 x.2.2.1).trans h⟩
-- spec.PlaceCell
noncomputable def m19_l9 (N : Nat) (v20 : List (Val (.int .i64))) (v21 : Int) (v23 : Int) (v24 : List (Val Y106)) (v25 : Int) (v26 : Int) (v28 : List (Val Y106)) (k2 : (List (Val (.int .i64))) → Option (Vals [i36, i4])) : Nat → Int → (List (Val (.int .i64))) → Option (Vals [i36, i4])
  | 0, _, _ => none
  | n + 1, v22, v27 => bif (decide (v22 < (v20.length : Int))) then (chk (0 ≤ v22 ∧ v22 < (v20.length : Int)) (bif (!((inR ((v20.getD v22.toNat (dflt (.int .i64))) : Int) (0 : Int) (3 : Int)) : Bool)) then (some (((0 : Int), ([] : List (Val Y106))), false, ())) else (chk (0 ≤ v22 ∧ v22 < (v20.length : Int)) (chk (0 ≤ v22 ∧ v22 < (v20.length : Int)) (chk (0 ≤ ((v20.getD v22.toNat (dflt (.int .i64))) : Int) ∧ ((v20.getD v22.toNat (dflt (.int .i64))) : Int) < (v27.length : Int)) (chk (((v20.getD v22.toNat (dflt (.int .i64))) : Int).toNat < v27.length) (chk (0 ≤ v21 ∧ v21 < (v24.length : Int)) (chk (0 ≤ v22 ∧ v22 < (((v24.getD v21.toNat (dflt Y106)).1 : List (Val (.int .i64))).length : Int)) (chk (0 ≤ ((v20.getD v22.toNat (dflt (.int .i64))) : Int) ∧ ((v20.getD v22.toNat (dflt (.int .i64))) : Int) < (v27.length : Int)) (chk (((v20.getD v22.toNat (dflt (.int .i64))) : Int).toNat < v27.length) (m19_l9 N v20 v21 v23 v24 v25 v26 v28 k2 n (IntKind.i64.wrap (v22 + (1 : Int))) (v27.set (((v20.getD v22.toNat (dflt (.int .i64))) : Int).toNat) (IntKind.i64.wrap (((v27.getD (((v20.getD v22.toNat (dflt (.int .i64))) : Int).toNat) (dflt (.int .i64))) : Int) + ((((v24.getD v21.toNat (dflt Y106)).1 : List (Val (.int .i64))).getD v22.toNat (dflt (.int .i64))) : Int))))))))))))))) else (k2 v27)
noncomputable def m19_l5 (N : Nat) (v2 : List (Val (.int .i64))) (v4 : Int) (v5 : List (Val Y106)) (v6 : Int) (v7 : Int) (k0 : (List (Val Y106)) → Option (Vals [i36, i4])) : Nat → Int → (List (Val Y106)) → Option (Vals [i36, i4])
  | 0, _, _ => none
  | n + 1, v3, v8 => bif (decide (v3 < (v5.length : Int))) then (chk (0 ≤ (4 : Int) ∧ (4 : Int) ≤ (4 : Int) ∧ (4 : Int) ≤ 1048576) (m19_l9 N v2 v3 v4 v5 v6 v7 v8 (fun (v30 : List (Val (.int .i64))) => chk (0 ≤ v3 ∧ v3 < (v5.length : Int)) (chk (0 ≤ v3 ∧ v3 < (v5.length : Int)) (chk (mkAtom_pre v30 (((v5.getD v3.toNat (dflt Y106)).2).1 : Int) (((v5.getD v3.toNat (dflt Y106)).2).2 : Bool)) (bif (!((mkAtom v30 (((v5.getD v3.toNat (dflt Y106)).2).1 : Int) (((v5.getD v3.toNat (dflt Y106)).2).2 : Bool)).2 : Bool)) then (some (((0 : Int), ([] : List (Val Y106))), false, ())) else (chk (v8.length + ([((((mkAtom v30 (((v5.getD v3.toNat (dflt Y106)).2).1 : Int) (((v5.getD v3.toNat (dflt Y106)).2).2 : Bool)).1).1 : List (Val (.int .i64))), ((((mkAtom v30 (((v5.getD v3.toNat (dflt Y106)).2).1 : Int) (((v5.getD v3.toNat (dflt Y106)).2).2 : Bool)).1).2).1 : Int), ((((mkAtom v30 (((v5.getD v3.toNat (dflt Y106)).2).1 : Int) (((v5.getD v3.toNat (dflt Y106)).2).2 : Bool)).1).2).2 : Bool))] : List (Val Y106)).length ≤ 1048576) (m19_l5 N v2 v4 v5 v6 v7 k0 n (IntKind.i64.wrap (v3 + (1 : Int))) (v8 ++ ([((((mkAtom v30 (((v5.getD v3.toNat (dflt Y106)).2).1 : Int) (((v5.getD v3.toNat (dflt Y106)).2).2 : Bool)).1).1 : List (Val (.int .i64))), ((((mkAtom v30 (((v5.getD v3.toNat (dflt Y106)).2).1 : Int) (((v5.getD v3.toNat (dflt Y106)).2).2 : Bool)).1).2).1 : Int), ((((mkAtom v30 (((v5.getD v3.toNat (dflt Y106)).2).1 : Int) (((v5.getD v3.toNat (dflt Y106)).2).2 : Bool)).1).2).2 : Bool))] : List (Val Y106))))))))) N (0 : Int) (List.replicate (4 : Int).toNat (dflt (.int .i64))))) else (k0 v8)
noncomputable def m19 (N : Nat) (v0 : Val Y36) (v1 : List (Val (.int .i64))) : Option (Vals [i36, i4]) := chk (isCell_pre v0) (bif (!((isCell v0) : Bool)) then (some (((0 : Int), ([] : List (Val Y106))), false, ())) else (bif (!(decide ((v1.length : Int) = (v0.1 : Int)))) then (some (((0 : Int), ([] : List (Val Y106))), false, ())) else (m19_l5 N v1 (v0.1 : Int) (v0.2 : List (Val Y106)) (0 : Int) (4 : Int) (fun (v32 : List (Val Y106)) => some (((4 : Int), v32), true, ())) N (0 : Int) ([] : List (Val Y106)))))
def Γ19 : Gam := [(64, g64), (65, g65), (66, g66)]
theorem Γ19_64 : Gam.get Γ19 64 = some g64 := rfl
theorem Γ19_65 : Gam.get Γ19 65 = some g65 := rfl
theorem Γ19_66 : Gam.get Γ19 66 = some g66 := rfl
def nl19_9 : Nm := ⟨[false, true, true, false, true, false, true, true, true, true], []⟩
theorem nl19_9_fix : nl19_9.fix = [] := rfl
theorem nl19_9_keep : nl19_9.keep = [false, true, true, false, true, false, true, true, true, true] := rfl
def nl19_5 : Nm := ⟨[false, true, true, false, true, false, true, true], [.box 6 1 106 Y106]⟩
theorem nl19_5_fix : nl19_5.fix = [.box 6 1 106 Y106] := rfl
theorem nl19_5_keep : nl19_5.keep = [false, true, true, false, true, false, true, true] := rfl
def nx19_0 : Nm := ⟨[false, false, false, false, true, false, true], []⟩
theorem nx19_0_fix : nx19_0.fix = [] := rfl
theorem nx19_0_keep : nx19_0.keep = [false, false, false, false, true, false, true] := rfl
def nx19_2 : Nm := ⟨[false, true, true, false, true, false, true, true, true], []⟩
theorem nx19_2_fix : nx19_2.fix = [] := rfl
theorem nx19_2_keep : nx19_2.keep = [false, true, true, false, true, false, true, true, true] := rfl
def nr19_14 : Nm := ⟨[false, true, true, false, true, false, true, true, false, false, true, true], []⟩
theorem nr19_14_fix : nr19_14.fix = [] := rfl
theorem nr19_14_keep : nr19_14.keep = [false, true, true, false, true, false, true, true, false, false, true, true] := rfl
def tr19 : Nat → Tree := fun i => if i = 13 then .quiet 0 (.quiet 1 (.quiet 2 (.quiet 3 (.quiet 4 (.quiet 5 (.quiet 6 (.quiet 7 (.quiet 8 (.quiet 9 (.quiet 10 (.quiet 11 (.quiet 12 (.quiet 13 (.quiet 14 (.quiet 15 (.quiet 16 (.quiet 17 (.quiet 18 (.quiet 19 (.quiet 20 (.quiet 21 (.quiet 22 (.alt 23 .done .stop))))))))))))))))))))))) else if i = 14 then .first 0 (.first 3 (.first 9 (.grow 1 (.grow 2 (.grow 4 (.grow 5 (.grow 6 (.grow 7 (.grow 8 (.grow 10 (.grow 11 (.grow 12 (.alt 13 (.first 14 (.first 15 (.first 16 (.alt 17 (.alt 18 (.quiet 19 .done) .stop) .stop)))) (.alt 17 (.alt 13 (.quiet 14 (.quiet 15 (.first 16 (.alt 18 (.quiet 19 .done) .stop)))) .stop) .stop)))))))))))))) else .done
def lp19 : Nat → Nm := fun i => if i = 9 then nl19_9 else if i = 5 then nl19_5 else ⟨[], []⟩
def ex19 : Nat → Option Nm := fun i => if i = 0 then some nx19_0 else if i = 2 then some nx19_2 else none
def rg19 : Nat → Option Nm := fun i => if i = 14 then some nr19_14 else none
theorem p19 : plansOk tr19 (Try.f19.body.getD .skip) = true := by kernel_rfl
def T19 (N : Nat) : Tab := { tr := tr19, lp := lp19, ex := ex19, rg := rg19, fuel := N }
theorem T19_pins (N : Nat) : (T19 N).pins = false := rfl
theorem T19_tr (N i : Nat) : (T19 N).tr i = tr19 i := rfl
theorem T19_lp (N i : Nat) : (T19 N).lp i = lp19 i := rfl
theorem T19_ex (N i : Nat) : (T19 N).ex i = ex19 i := rfl
theorem T19_rg (N i : Nat) : (T19 N).rg i = rg19 i := rfl
theorem T19_fuel (N : Nat) : (T19 N).fuel = N := rfl
noncomputable def c19_9 : Code := cut [true, true, true, false, true, true, true, true, false, true, true, false, true, true, true] (Try.f19.body.getD .skip)
theorem c19_9_at {N : Nat} {Q : X → St → Option (Vals [i36, i4])} {e : List LV} {h : List Blk} : runT tt Γ19 (T19 N) c19_9 Q ⟨e, h⟩ = runT tt Γ19 (T19 N) (cut [true, true, true, false, true, true, true, true, false, true, true, false, true, true, true] (Try.f19.body.getD .skip)) Q ⟨e, h⟩ := rfl
theorem r19_l9 (N : Nat) (v20 : List (Val (.int .i64))) (v21 : Int) (v23 : Int) (v24 : List (Val Y106)) (v25 : Int) (v26 : Int) (v28 : List (Val Y106)) {k2 : (List (Val (.int .i64))) → Option (Vals [i36, i4])} {Q : X → St → Option (Vals [i36, i4])} {c : Code} (hc : c = c19_9) (hret : ∀ st, Q .ret st = retS tt true [i36, i4] [.cell 4 36, .tmp 5] st) (h2 : ∀ (v29 : List (Val (.int .i64))), Q (.exit 2) ⟨[u, .one (.sl 3 (.int .i64) v20 5), .one (.ptr 0 0 0), u, .one (.ptr 1 0 0), u, .one (.ptr 2 0 0), .one (.int .i64 v21), .one (.own 3), u, u, u, u, u, u, u, u, u, u, u, u, u, u, u, u, u, u, u, u, u, u, u, u, u, u, u, u, u, u, u, u, u, u, u, u, u, u, u, u, u, u, u, u, u, u, u, u, u, u, u, u, u, u, u, u, u, u, u, u, u, u, u, u, u, u, u, u, u, u, u, u, u, u, u, u, u, u, u, u, u, u, u, u, u, u], [.box [.int .i64 v23, .sl 106 Y106 v24 5], .box [.int .i64 v25, .nils], .box [.int .i64 v26, .own 4], .row 3 (.int .i64) v29 true true 0, .row 106 Y106 v28 true true 0]⟩ = k2 v29) : ∀ (n : Nat) (v22 : Int) (v27 : List (Val (.int .i64))), loopR (runT tt Γ19 (T19 N) c) false nl19_9 Q n ⟨[u, .one (.sl 3 (.int .i64) v20 5), .one (.ptr 0 0 0), u, .one (.ptr 1 0 0), u, .one (.ptr 2 0 0), .one (.int .i64 v21), .one (.own 3), .one (.int .i64 v22), u, u, u, u, u, u, u, u, u, u, u, u, u, u, u, u, u, u, u, u, u, u, u, u, u, u, u, u, u, u, u, u, u, u, u, u, u, u, u, u, u, u, u, u, u, u, u, u, u, u, u, u, u, u, u, u, u, u, u, u, u, u, u, u, u, u, u, u, u, u, u, u, u, u, u, u, u, u, u, u, u, u, u, u, u], [.box [.int .i64 v23, .sl 106 Y106 v24 5], .box [.int .i64 v25, .nils], .box [.int .i64 v26, .own 4], .row 3 (.int .i64) v27 true true 0, .row 106 Y106 v28 true true 0]⟩ = m19_l9 N v20 v21 v23 v24 v25 v26 v28 k2 n v22 v27 := by
  subst hc; intro n; induction n with
  | zero => intros; rfl
  | succ n ih =>
    intro v22 v27
    rw [loop_succ, c19_9_at, m19_l9]; unfold Try.f19
    simp (maxSteps := 10000000) -implicitDefEqProofs [T19_tr, tr19, T19_lp, lp19, T19_ex, ex19, T19_rg, rg19, T19_fuel, T19_pins, nl19_9_fix, nl19_9_keep, nl19_5_fix, nl19_5_keep, nx19_0_fix, nx19_0_keep, nx19_2_fix, nx19_2_keep, nr19_14_fix, nr19_14_keep, Γ19_64, Γ19_65, Γ19_66, g64, g65, g66, hret, h2, ih]
noncomputable def c19_5 : Code := cut [true, true, true, false, true, true, true] (Try.f19.body.getD .skip)
theorem c19_5_at {N : Nat} {Q : X → St → Option (Vals [i36, i4])} {e : List LV} {h : List Blk} : runT tt Γ19 (T19 N) c19_5 Q ⟨e, h⟩ = runT tt Γ19 (T19 N) (cut [true, true, true, false, true, true, true] (Try.f19.body.getD .skip)) Q ⟨e, h⟩ := rfl
theorem r19_l5 (N : Nat) (v2 : List (Val (.int .i64))) (v4 : Int) (v5 : List (Val Y106)) (v6 : Int) (v7 : Int) {k0 : (List (Val Y106)) → Option (Vals [i36, i4])} {Q : X → St → Option (Vals [i36, i4])} {c : Code} (hc : c = c19_5) (hret : ∀ st, Q .ret st = retS tt true [i36, i4] [.cell 4 36, .tmp 5] st) (h0 : ∀ (v31 : List (Val Y106)), Q (.exit 0) ⟨[u, u, u, u, .one (.ptr 0 0 0), u, .one (.ptr 1 0 0), u, u, u, u, u, u, u, u, u, u, u, u, u, u, u, u, u, u, u, u, u, u, u, u, u, u, u, u, u, u, u, u, u, u, u, u, u, u, u, u, u, u, u, u, u, u, u, u, u, u, u, u, u, u, u, u, u, u, u, u, u, u, u, u, u, u, u, u, u, u, u, u, u, u, u, u, u, u, u, u, u, u, u, u, u, u, u, u], [.box [.int .i64 v6, .nils], .box [.int .i64 v7, .own 2], .row 106 Y106 v31 true true 0]⟩ = k0 v31) : ∀ (n : Nat) (v3 : Int) (v8 : List (Val Y106)), loopR (runT tt Γ19 (T19 N) c) false nl19_5 Q n ⟨[u, .one (.sl 3 (.int .i64) v2 4), .one (.ptr 0 0 0), u, .one (.ptr 1 0 0), u, .one (.ptr 2 0 0), .one (.int .i64 v3), u, u, u, u, u, u, u, u, u, u, u, u, u, u, u, u, u, u, u, u, u, u, u, u, u, u, u, u, u, u, u, u, u, u, u, u, u, u, u, u, u, u, u, u, u, u, u, u, u, u, u, u, u, u, u, u, u, u, u, u, u, u, u, u, u, u, u, u, u, u, u, u, u, u, u, u, u, u, u, u, u, u, u, u, u, u, u], [.box [.int .i64 v4, .sl 106 Y106 v5 4], .box [.int .i64 v6, .nils], .box [.int .i64 v7, .own 3], .row 106 Y106 v8 true true 0]⟩ = m19_l5 N v2 v4 v5 v6 v7 k0 n v3 v8 := by
  subst hc; intro n; induction n with
  | zero => intros; rfl
  | succ n ih =>
    intro v3 v8
    rw [loop_succ, c19_5_at]; unfold Try.f19
    simp (maxSteps := 10000000) -implicitDefEqProofs [T19_tr, tr19, T19_lp, lp19, T19_ex, ex19, T19_rg, rg19, T19_fuel, T19_pins, nl19_9_fix, nl19_9_keep, nl19_5_fix, nl19_5_keep, nx19_0_fix, nx19_0_keep, nx19_2_fix, nx19_2_keep, nr19_14_fix, nr19_14_keep, Γ19_64, Γ19_65, Γ19_66, g64, g65, g66, hret, h0, ih]
    rewrite [r19_l9 (k2 := (fun (v30 : List (Val (.int .i64))) => chk (0 ≤ v3 ∧ v3 < (v5.length : Int)) (chk (0 ≤ v3 ∧ v3 < (v5.length : Int)) (chk (mkAtom_pre v30 (((v5.getD v3.toNat (dflt Y106)).2).1 : Int) (((v5.getD v3.toNat (dflt Y106)).2).2 : Bool)) (bif (!((mkAtom v30 (((v5.getD v3.toNat (dflt Y106)).2).1 : Int) (((v5.getD v3.toNat (dflt Y106)).2).2 : Bool)).2 : Bool)) then (some (((0 : Int), ([] : List (Val Y106))), false, ())) else (chk (v8.length + ([((((mkAtom v30 (((v5.getD v3.toNat (dflt Y106)).2).1 : Int) (((v5.getD v3.toNat (dflt Y106)).2).2 : Bool)).1).1 : List (Val (.int .i64))), ((((mkAtom v30 (((v5.getD v3.toNat (dflt Y106)).2).1 : Int) (((v5.getD v3.toNat (dflt Y106)).2).2 : Bool)).1).2).1 : Int), ((((mkAtom v30 (((v5.getD v3.toNat (dflt Y106)).2).1 : Int) (((v5.getD v3.toNat (dflt Y106)).2).2 : Bool)).1).2).2 : Bool))] : List (Val Y106)).length ≤ 1048576) (m19_l5 N v2 v4 v5 v6 v7 k0 n (IntKind.i64.wrap (v3 + (1 : Int))) (v8 ++ ([((((mkAtom v30 (((v5.getD v3.toNat (dflt Y106)).2).1 : Int) (((v5.getD v3.toNat (dflt Y106)).2).2 : Bool)).1).1 : List (Val (.int .i64))), ((((mkAtom v30 (((v5.getD v3.toNat (dflt Y106)).2).1 : Int) (((v5.getD v3.toNat (dflt Y106)).2).2 : Bool)).1).2).1 : Int), ((((mkAtom v30 (((v5.getD v3.toNat (dflt Y106)).2).1 : Int) (((v5.getD v3.toNat (dflt Y106)).2).2 : Bool)).1).2).2 : Bool))] : List (Val Y106)))))))))) N _ _ _ _ _ _ _ ?_ ?_ ?_]
    · rewrite [m19_l5]; first | rfl | simp (maxSteps := 10000000) -implicitDefEqProofs [ih]
    · rfl
    · intro; simp only [seqR_ret, blockR_ret, retR_ret, retX_ret, hret]
    · intro v30; simp (maxSteps := 10000000) -implicitDefEqProofs [T19_tr, tr19, T19_lp, lp19, T19_ex, ex19, T19_rg, rg19, T19_fuel, T19_pins, nl19_9_fix, nl19_9_keep, nl19_5_fix, nl19_5_keep, nx19_0_fix, nx19_0_keep, nx19_2_fix, nx19_2_keep, nr19_14_fix, nr19_14_keep, Γ19_64, Γ19_65, Γ19_66, g64, g65, g66, hret, h0, ih]
theorem run19 (N : Nat) (v0 : Val Y36) (v1 : List (Val (.int .i64))) : runT tt Γ19 (T19 N) (Try.f19.body.getD .skip) (retR tt true [i36, i4] [.cell 4 36, .tmp 5]) (entryP [i36, i32] 95 (v0, v1, ())) = m19 N v0 v1 := by
  unfold Try.f19
  simp (maxSteps := 10000000) -implicitDefEqProofs [T19_tr, tr19, T19_lp, lp19, T19_ex, ex19, T19_rg, rg19, T19_fuel, T19_pins, nl19_9_fix, nl19_9_keep, nl19_5_fix, nl19_5_keep, nx19_0_fix, nx19_0_keep, nx19_2_fix, nx19_2_keep, nr19_14_fix, nr19_14_keep, Γ19_64, Γ19_65, Γ19_66, g64, g65, g66]
  rewrite [r19_l5 (k0 := (fun (v32 : List (Val Y106)) => some (((4 : Int), v32), true, ()))) N _ _ _ _ _ ?_ ?_ ?_]
  · rewrite [m19]; first | rfl | simp (maxSteps := 10000000) -implicitDefEqProofs []
  · rfl
  · intro; simp only [seqR_ret, blockR_ret, retR_ret, retX_ret]
  · intro v32; simp (maxSteps := 10000000) -implicitDefEqProofs [T19_tr, tr19, T19_lp, lp19, T19_ex, ex19, T19_rg, rg19, T19_fuel, T19_pins, nl19_9_fix, nl19_9_keep, nl19_5_fix, nl19_5_keep, nx19_0_fix, nx19_0_keep, nx19_2_fix, nx19_2_keep, nr19_14_fix, nr19_14_keep, Γ19_64, Γ19_65, Γ19_66, g64, g65, g66]
-- impl.PlaceCell
noncomputable def m22_l9 (N : Nat) (v25 : List (Val (.int .i64))) (v26 : List (Val Y106)) (v27 : Int) (v28 : Int) (v29 : List (Val (.int .i64))) (v30 : Int) (v32 : Int) (v33 : Int) (v34 : List (Val (.int .i64))) (v35 : Int) (v36 : Bool) (v38 : List (Val Y106)) (k2 : (List (Val (.int .i64))) → Option (Vals [i36, i4])) : Nat → Int → (List (Val (.int .i64))) → Option (Vals [i36, i4])
  | 0, _, _ => none
  | n + 1, v31, v37 => bif (decide (v31 < v30)) then (chk (0 ≤ v31 ∧ v31 < (v29.length : Int)) (bif (!((isVar ((v29.getD v31.toNat (dflt (.int .i64))) : Int)) : Bool)) then (some (((0 : Int), ([] : List (Val Y106))), false, ())) else (chk (0 ≤ ((v29.getD v31.toNat (dflt (.int .i64))) : Int) ∧ ((v29.getD v31.toNat (dflt (.int .i64))) : Int) < (v37.length : Int)) (chk (((v29.getD v31.toNat (dflt (.int .i64))) : Int).toNat < v37.length) (chk (0 ≤ v31 ∧ v31 < (v34.length : Int)) (chk (0 ≤ ((v29.getD v31.toNat (dflt (.int .i64))) : Int) ∧ ((v29.getD v31.toNat (dflt (.int .i64))) : Int) < (v37.length : Int)) (chk (((v29.getD v31.toNat (dflt (.int .i64))) : Int).toNat < v37.length) (m22_l9 N v25 v26 v27 v28 v29 v30 v32 v33 v34 v35 v36 v38 k2 n (IntKind.i64.wrap (v31 + (1 : Int))) (v37.set (((v29.getD v31.toNat (dflt (.int .i64))) : Int).toNat) (IntKind.i64.wrap (((v37.getD (((v29.getD v31.toNat (dflt (.int .i64))) : Int).toNat) (dflt (.int .i64))) : Int) + ((v34.getD v31.toNat (dflt (.int .i64))) : Int)))))))))))) else (k2 v37)
noncomputable def m22_l5 (N : Nat) (v2 : List (Val (.int .i64))) (v3 : List (Val Y106)) (v4 : Int) (v6 : Int) (v7 : Int) (k0 : (List (Val Y106)) → Option (Vals [i36, i4])) : Nat → Int → (List (Val Y106)) → Option (Vals [i36, i4])
  | 0, _, _ => none
  | n + 1, v5, v8 => bif (decide (v5 < v4)) then (chk (0 ≤ v5 ∧ v5 < (v3.length : Int)) (chk (0 ≤ (4 : Int) ∧ (4 : Int) ≤ (4 : Int) ∧ (4 : Int) ≤ 1048576) (m22_l9 N v2 v3 v4 v5 v2 (v2.length : Int) v6 v7 ((v3.getD v5.toNat (dflt Y106)).1 : List (Val (.int .i64))) (((v3.getD v5.toNat (dflt Y106)).2).1 : Int) (((v3.getD v5.toNat (dflt Y106)).2).2 : Bool) v8 (fun (v40 : List (Val (.int .i64))) => chk (mkAtom_pre v40 (((v3.getD v5.toNat (dflt Y106)).2).1 : Int) (((v3.getD v5.toNat (dflt Y106)).2).2 : Bool)) (bif (!((mkAtom v40 (((v3.getD v5.toNat (dflt Y106)).2).1 : Int) (((v3.getD v5.toNat (dflt Y106)).2).2 : Bool)).2 : Bool)) then (some (((0 : Int), ([] : List (Val Y106))), false, ())) else (chk (v8.length + ([((((mkAtom v40 (((v3.getD v5.toNat (dflt Y106)).2).1 : Int) (((v3.getD v5.toNat (dflt Y106)).2).2 : Bool)).1).1 : List (Val (.int .i64))), ((((mkAtom v40 (((v3.getD v5.toNat (dflt Y106)).2).1 : Int) (((v3.getD v5.toNat (dflt Y106)).2).2 : Bool)).1).2).1 : Int), ((((mkAtom v40 (((v3.getD v5.toNat (dflt Y106)).2).1 : Int) (((v3.getD v5.toNat (dflt Y106)).2).2 : Bool)).1).2).2 : Bool))] : List (Val Y106)).length ≤ 1048576) (m22_l5 N v2 v3 v4 v6 v7 k0 n (IntKind.i64.wrap (v5 + (1 : Int))) (v8 ++ ([((((mkAtom v40 (((v3.getD v5.toNat (dflt Y106)).2).1 : Int) (((v3.getD v5.toNat (dflt Y106)).2).2 : Bool)).1).1 : List (Val (.int .i64))), ((((mkAtom v40 (((v3.getD v5.toNat (dflt Y106)).2).1 : Int) (((v3.getD v5.toNat (dflt Y106)).2).2 : Bool)).1).2).1 : Int), ((((mkAtom v40 (((v3.getD v5.toNat (dflt Y106)).2).1 : Int) (((v3.getD v5.toNat (dflt Y106)).2).2 : Bool)).1).2).2 : Bool))] : List (Val Y106))))))) N (0 : Int) (List.replicate (4 : Int).toNat (dflt (.int .i64)))))) else (k0 v8)
noncomputable def m22 (N : Nat) (v0 : Val Y36) (v1 : List (Val (.int .i64))) : Option (Vals [i36, i4]) := bif (!((isCell v0) : Bool)) then (some (((0 : Int), ([] : List (Val Y106))), false, ())) else (bif (!(decide ((v1.length : Int) = (v0.1 : Int)))) then (some (((0 : Int), ([] : List (Val Y106))), false, ())) else (m22_l5 N v1 (v0.2 : List (Val Y106)) ((v0.2 : List (Val Y106)).length : Int) (0 : Int) (4 : Int) (fun (v42 : List (Val Y106)) => some (((4 : Int), v42), true, ())) N (0 : Int) ([] : List (Val Y106))))
def Γ22 : Gam := [(68, g68), (69, g69), (70, g70)]
theorem Γ22_68 : Gam.get Γ22 68 = some g68 := rfl
theorem Γ22_69 : Gam.get Γ22 69 = some g69 := rfl
theorem Γ22_70 : Gam.get Γ22 70 = some g70 := rfl
def nl22_9 : Nm := ⟨[false, true, false, false, true, false, true, false, true, true, false, false, false, false, false, false, false, false, false, false, false, false, false, false, false, false, false, false, true, true, true, false, false, false, false, true, true, true], []⟩
theorem nl22_9_fix : nl22_9.fix = [] := rfl
theorem nl22_9_keep : nl22_9.keep = [false, true, false, false, true, false, true, false, true, true, false, false, false, false, false, false, false, false, false, false, false, false, false, false, false, false, false, false, true, true, true, false, false, false, false, true, true, true] := rfl
def nl22_5 : Nm := ⟨[false, true, false, false, true, false, true, false, false, false, false, false, false, false, false, false, false, false, false, false, false, false, false, false, false, false, false, false, true, true, true], []⟩
theorem nl22_5_fix : nl22_5.fix = [] := rfl
theorem nl22_5_keep : nl22_5.keep = [false, true, false, false, true, false, true, false, false, false, false, false, false, false, false, false, false, false, false, false, false, false, false, false, false, false, false, false, true, true, true] := rfl
def nx22_0 : Nm := ⟨[false, false, false, false, true, false, true], []⟩
theorem nx22_0_fix : nx22_0.fix = [] := rfl
theorem nx22_0_keep : nx22_0.keep = [false, false, false, false, true, false, true] := rfl
def nx22_2 : Nm := ⟨[false, true, false, false, true, false, true, false, true, true, false, false, false, false, false, false, false, false, false, false, false, false, false, false, false, false, false, false, true, true, true], []⟩
theorem nx22_2_fix : nx22_2.fix = [] := rfl
theorem nx22_2_keep : nx22_2.keep = [false, true, false, false, true, false, true, false, true, true, false, false, false, false, false, false, false, false, false, false, false, false, false, false, false, false, false, false, true, true, true] := rfl
def tr22 : Nat → Tree := fun i => if i = 13 then .quiet 0 (.quiet 1 (.quiet 2 (.quiet 3 (.quiet 4 (.quiet 5 (.quiet 6 (.quiet 7 (.quiet 8 (.quiet 9 (.quiet 10 (.alt 11 .done .stop))))))))))) else .done
def lp22 : Nat → Nm := fun i => if i = 9 then nl22_9 else if i = 5 then nl22_5 else ⟨[], []⟩
def ex22 : Nat → Option Nm := fun i => if i = 0 then some nx22_0 else if i = 2 then some nx22_2 else none
def rg22 : Nat → Option Nm := fun _ => none
theorem p22 : plansOk tr22 (Try.f22.body.getD .skip) = true := by kernel_rfl
def T22 (N : Nat) : Tab := { tr := tr22, lp := lp22, ex := ex22, rg := rg22, fuel := N }
theorem T22_pins (N : Nat) : (T22 N).pins = false := rfl
theorem T22_tr (N i : Nat) : (T22 N).tr i = tr22 i := rfl
theorem T22_lp (N i : Nat) : (T22 N).lp i = lp22 i := rfl
theorem T22_ex (N i : Nat) : (T22 N).ex i = ex22 i := rfl
theorem T22_rg (N i : Nat) : (T22 N).rg i = rg22 i := rfl
theorem T22_fuel (N : Nat) : (T22 N).fuel = N := rfl
noncomputable def c22_9 : Code := cut [true, true, true, false, true, true, true, true, true, false, true, true, true, false, true, true, true] (Try.f22.body.getD .skip)
theorem c22_9_at {N : Nat} {Q : X → St → Option (Vals [i36, i4])} {e : List LV} {h : List Blk} : runT tt Γ22 (T22 N) c22_9 Q ⟨e, h⟩ = runT tt Γ22 (T22 N) (cut [true, true, true, false, true, true, true, true, true, false, true, true, true, false, true, true, true] (Try.f22.body.getD .skip)) Q ⟨e, h⟩ := rfl
theorem r22_l9 (N : Nat) (v25 : List (Val (.int .i64))) (v26 : List (Val Y106)) (v27 : Int) (v28 : Int) (v29 : List (Val (.int .i64))) (v30 : Int) (v32 : Int) (v33 : Int) (v34 : List (Val (.int .i64))) (v35 : Int) (v36 : Bool) (v38 : List (Val Y106)) {k2 : (List (Val (.int .i64))) → Option (Vals [i36, i4])} {Q : X → St → Option (Vals [i36, i4])} {c : Code} (hc : c = c22_9) (hret : ∀ st, Q .ret st = retS tt true [i36, i4] [.cell 4 36, .tmp 5] st) (h2 : ∀ (v39 : List (Val (.int .i64))), Q (.exit 2) ⟨[u, .one (.sl 3 (.int .i64) v25 5), u, u, .one (.ptr 0 0 0), u, .one (.ptr 1 0 0), u, .one (.ptr 2 0 0), .one (.own 3), u, u, u, u, u, u, u, u, u, u, u, u, u, u, u, u, u, u, .one (.sl 106 Y106 v26 5), .one (.int .i64 v27), .one (.int .i64 v28), u, u, u, u, u, u, u, u, u, u, u, u, u, u, u, u, u, u, u, u, u, u, u, u, u, u, u, u, u, u, u, u, u, u, u, u, u, u, u, u, u, u, u, u, u, u, u], [.box [.int .i64 v32, .nils], .box [.int .i64 v33, .own 4], .box [.sl 3 (.int .i64) v34 5, .int .i64 v35, .bool v36], .row 3 (.int .i64) v39 true true 0, .row 106 Y106 v38 true true 0]⟩ = k2 v39) : ∀ (n : Nat) (v31 : Int) (v37 : List (Val (.int .i64))), loopR (runT tt Γ22 (T22 N) c) false nl22_9 Q n ⟨[u, .one (.sl 3 (.int .i64) v25 5), u, u, .one (.ptr 0 0 0), u, .one (.ptr 1 0 0), u, .one (.ptr 2 0 0), .one (.own 3), u, u, u, u, u, u, u, u, u, u, u, u, u, u, u, u, u, u, .one (.sl 106 Y106 v26 5), .one (.int .i64 v27), .one (.int .i64 v28), u, u, u, u, .one (.sl 3 (.int .i64) v29 5), .one (.int .i64 v30), .one (.int .i64 v31), u, u, u, u, u, u, u, u, u, u, u, u, u, u, u, u, u, u, u, u, u, u, u, u, u, u, u, u, u, u, u, u, u, u, u, u, u, u, u, u], [.box [.int .i64 v32, .nils], .box [.int .i64 v33, .own 4], .box [.sl 3 (.int .i64) v34 5, .int .i64 v35, .bool v36], .row 3 (.int .i64) v37 true true 0, .row 106 Y106 v38 true true 0]⟩ = m22_l9 N v25 v26 v27 v28 v29 v30 v32 v33 v34 v35 v36 v38 k2 n v31 v37 := by
  subst hc; intro n; induction n with
  | zero => intros; rfl
  | succ n ih =>
    intro v31 v37
    rw [loop_succ, c22_9_at, m22_l9]; unfold Try.f22
    simp (maxSteps := 10000000) -implicitDefEqProofs [T22_tr, tr22, T22_lp, lp22, T22_ex, ex22, T22_rg, rg22, T22_fuel, T22_pins, nl22_9_fix, nl22_9_keep, nl22_5_fix, nl22_5_keep, nx22_0_fix, nx22_0_keep, nx22_2_fix, nx22_2_keep, Γ22_68, Γ22_69, Γ22_70, g68, g69, g70, hret, h2, ih]
noncomputable def c22_5 : Code := cut [true, true, true, false, true, true, true] (Try.f22.body.getD .skip)
theorem c22_5_at {N : Nat} {Q : X → St → Option (Vals [i36, i4])} {e : List LV} {h : List Blk} : runT tt Γ22 (T22 N) c22_5 Q ⟨e, h⟩ = runT tt Γ22 (T22 N) (cut [true, true, true, false, true, true, true] (Try.f22.body.getD .skip)) Q ⟨e, h⟩ := rfl
theorem r22_l5 (N : Nat) (v2 : List (Val (.int .i64))) (v3 : List (Val Y106)) (v4 : Int) (v6 : Int) (v7 : Int) {k0 : (List (Val Y106)) → Option (Vals [i36, i4])} {Q : X → St → Option (Vals [i36, i4])} {c : Code} (hc : c = c22_5) (hret : ∀ st, Q .ret st = retS tt true [i36, i4] [.cell 4 36, .tmp 5] st) (h0 : ∀ (v41 : List (Val Y106)), Q (.exit 0) ⟨[u, u, u, u, .one (.ptr 0 0 0), u, .one (.ptr 1 0 0), u, u, u, u, u, u, u, u, u, u, u, u, u, u, u, u, u, u, u, u, u, u, u, u, u, u, u, u, u, u, u, u, u, u, u, u, u, u, u, u, u, u, u, u, u, u, u, u, u, u, u, u, u, u, u, u, u, u, u, u, u, u, u, u, u, u, u, u, u, u, u], [.box [.int .i64 v6, .nils], .box [.int .i64 v7, .own 2], .row 106 Y106 v41 true true 0]⟩ = k0 v41) : ∀ (n : Nat) (v5 : Int) (v8 : List (Val Y106)), loopR (runT tt Γ22 (T22 N) c) false nl22_5 Q n ⟨[u, .one (.sl 3 (.int .i64) v2 3), u, u, .one (.ptr 0 0 0), u, .one (.ptr 1 0 0), u, u, u, u, u, u, u, u, u, u, u, u, u, u, u, u, u, u, u, u, u, .one (.sl 106 Y106 v3 3), .one (.int .i64 v4), .one (.int .i64 v5), u, u, u, u, u, u, u, u, u, u, u, u, u, u, u, u, u, u, u, u, u, u, u, u, u, u, u, u, u, u, u, u, u, u, u, u, u, u, u, u, u, u, u, u, u, u, u], [.box [.int .i64 v6, .nils], .box [.int .i64 v7, .own 2], .row 106 Y106 v8 true true 0]⟩ = m22_l5 N v2 v3 v4 v6 v7 k0 n v5 v8 := by
  subst hc; intro n; induction n with
  | zero => intros; rfl
  | succ n ih =>
    intro v5 v8
    rw [loop_succ, c22_5_at]; unfold Try.f22
    simp (maxSteps := 10000000) -implicitDefEqProofs [T22_tr, tr22, T22_lp, lp22, T22_ex, ex22, T22_rg, rg22, T22_fuel, T22_pins, nl22_9_fix, nl22_9_keep, nl22_5_fix, nl22_5_keep, nx22_0_fix, nx22_0_keep, nx22_2_fix, nx22_2_keep, Γ22_68, Γ22_69, Γ22_70, g68, g69, g70, hret, h0, ih]
    rewrite [r22_l9 (k2 := (fun (v40 : List (Val (.int .i64))) => chk (mkAtom_pre v40 (((v3.getD v5.toNat (dflt Y106)).2).1 : Int) (((v3.getD v5.toNat (dflt Y106)).2).2 : Bool)) (bif (!((mkAtom v40 (((v3.getD v5.toNat (dflt Y106)).2).1 : Int) (((v3.getD v5.toNat (dflt Y106)).2).2 : Bool)).2 : Bool)) then (some (((0 : Int), ([] : List (Val Y106))), false, ())) else (chk (v8.length + ([((((mkAtom v40 (((v3.getD v5.toNat (dflt Y106)).2).1 : Int) (((v3.getD v5.toNat (dflt Y106)).2).2 : Bool)).1).1 : List (Val (.int .i64))), ((((mkAtom v40 (((v3.getD v5.toNat (dflt Y106)).2).1 : Int) (((v3.getD v5.toNat (dflt Y106)).2).2 : Bool)).1).2).1 : Int), ((((mkAtom v40 (((v3.getD v5.toNat (dflt Y106)).2).1 : Int) (((v3.getD v5.toNat (dflt Y106)).2).2 : Bool)).1).2).2 : Bool))] : List (Val Y106)).length ≤ 1048576) (m22_l5 N v2 v3 v4 v6 v7 k0 n (IntKind.i64.wrap (v5 + (1 : Int))) (v8 ++ ([((((mkAtom v40 (((v3.getD v5.toNat (dflt Y106)).2).1 : Int) (((v3.getD v5.toNat (dflt Y106)).2).2 : Bool)).1).1 : List (Val (.int .i64))), ((((mkAtom v40 (((v3.getD v5.toNat (dflt Y106)).2).1 : Int) (((v3.getD v5.toNat (dflt Y106)).2).2 : Bool)).1).2).1 : Int), ((((mkAtom v40 (((v3.getD v5.toNat (dflt Y106)).2).1 : Int) (((v3.getD v5.toNat (dflt Y106)).2).2 : Bool)).1).2).2 : Bool))] : List (Val Y106)))))))) N _ _ _ _ _ _ _ _ _ _ _ _ ?_ ?_ ?_]
    · rewrite [m22_l5]; first | rfl | simp (maxSteps := 10000000) -implicitDefEqProofs [ih]
    · rfl
    · intro; simp only [seqR_ret, blockR_ret, retR_ret, retX_ret, hret]
    · intro v40; simp (maxSteps := 10000000) -implicitDefEqProofs [T22_tr, tr22, T22_lp, lp22, T22_ex, ex22, T22_rg, rg22, T22_fuel, T22_pins, nl22_9_fix, nl22_9_keep, nl22_5_fix, nl22_5_keep, nx22_0_fix, nx22_0_keep, nx22_2_fix, nx22_2_keep, Γ22_68, Γ22_69, Γ22_70, g68, g69, g70, hret, h0, ih]
theorem run22 (N : Nat) (v0 : Val Y36) (v1 : List (Val (.int .i64))) : runT tt Γ22 (T22 N) (Try.f22.body.getD .skip) (retR tt true [i36, i4] [.cell 4 36, .tmp 5]) (entryP [i36, i32] 78 (v0, v1, ())) = m22 N v0 v1 := by
  unfold Try.f22
  simp (maxSteps := 10000000) -implicitDefEqProofs [T22_tr, tr22, T22_lp, lp22, T22_ex, ex22, T22_rg, rg22, T22_fuel, T22_pins, nl22_9_fix, nl22_9_keep, nl22_5_fix, nl22_5_keep, nx22_0_fix, nx22_0_keep, nx22_2_fix, nx22_2_keep, Γ22_68, Γ22_69, Γ22_70, g68, g69, g70]
  rewrite [r22_l5 (k0 := (fun (v42 : List (Val Y106)) => some (((4 : Int), v42), true, ()))) N _ _ _ _ _ ?_ ?_ ?_]
  · rewrite [m22]; first | rfl | simp (maxSteps := 10000000) -implicitDefEqProofs []
  · rfl
  · intro; simp only [seqR_ret, blockR_ret, retR_ret, retX_ret]
  · intro v42; simp (maxSteps := 10000000) -implicitDefEqProofs [T22_tr, tr22, T22_lp, lp22, T22_ex, ex22, T22_rg, rg22, T22_fuel, T22_pins, nl22_9_fix, nl22_9_keep, nl22_5_fix, nl22_5_keep, nx22_0_fix, nx22_0_keep, nx22_2_fix, nx22_2_keep, Γ22_68, Γ22_69, Γ22_70, g68, g69, g70]
/-- The coefficients, put to their variables. -/
def placeF : List (Int × Int) → List Int → Option (List Int)
  | [], s => some s
  | p :: r, s => bif inR p.1 0 3 then placeF r (s.set p.1.toNat (IntKind.i64.wrap (s.getD p.1.toNat 0 + p.2))) else none
def placeAtoms (vars : List Int) : List (Val Y106) → List (Val Y106) → Option (List (Val Y106))
  | [], s => some s
  | a :: r, s => match placeF (vars.zip a.1) (List.replicate 4 0) with
    | none => none
    | some co => bif (mkAtom co a.2.1 a.2.2).2 then placeAtoms vars r (s ++ [(mkAtom co a.2.1 a.2.2).1]) else none
def placeCell (c : Val Y36) (vars : List (Val (.int .i64))) : Val Y36 × Bool :=
  bif isCell c && decide ((vars.length : Int) = (c.1 : Int)) then match placeAtoms vars c.2 [] with
    | some l => (((4 : Int), l), true)
    | none => (((0 : Int), []), false)
  else (((0 : Int), []), false)
def placeCell_pre (c : Val Y36) (_ : List (Val (.int .i64))) : Prop := isCell_pre c
abbrev Four := { l : List (Val (.int .i64)) // List.length l = 4 }
theorem place_fold {ρ : Type} {r : Option ρ} {k : List (Val (.int .i64)) → Option ρ} : ∀ (ps : List (Int × Int)) (i : Nat) (s : Four),
    foldK (fun _ (p : Int × Int) (s : Four) K => bif inR p.1 0 3 then K ⟨s.1.set p.1.toNat (IntKind.i64.wrap (s.1.getD p.1.toNat 0 + p.2)), by rw [List.length_set]; exact s.2⟩ else r) i ps s (fun s => k s.1) = match placeF ps s.1 with
      | some l => k l
      | none => r
  | [], _, _ => rfl
  | p :: ps, i, s => by
    rw [foldK]; dsimp only; rw [placeF]
    cases inR p.1 0 3 with
    | true => simp only [cond_true]; rw [place_fold ps]
    | false => rfl
theorem placeF_in : ∀ (ps : List (Int × Int)) (s l : List Int) (j : Nat), placeF ps s = some l → s.length = 4 → (∀ p ∈ ps, -400000000 ≤ p.2 ∧ p.2 ≤ 400000000) → (∀ x ∈ s, -400000000 * (j : Int) ≤ x ∧ x ≤ 400000000 * (j : Int)) → j + ps.length ≤ 100 → l.length = 4 ∧ ∀ x ∈ l, inI x
  | [], s, l, j, h, hl, _, hs, hj => by
    simp only [placeF, Option.some.injEq] at h
    subst h
    refine ⟨hl, fun x hx => ?_⟩
    have := hs x hx
    simp at hj
    unfold inI; omega
  | p :: ps, s, l, j, h, hl, hp, hs, hj => by
    simp only [placeF] at h
    cases hr : inR p.1 0 3 with
    | false => rw [hr] at h; simp at h
    | true =>
      rw [hr] at h
      simp only [cond_true] at h
      have hp0 := hp p (by simp)
      have hr' := of_decide_eq_true hr
      have hlt : p.1.toNat < s.length := by omega
      have hg : s.getD p.1.toNat 0 ∈ s := by rw [getD_at hlt]; exact List.getElem_mem hlt
      have hg' := hs _ hg
      simp only [List.length_cons] at hj
      refine placeF_in ps _ l (j + 1) h (by simpa using hl) (fun q hq => hp q (by simp [hq])) (fun x hx => ?_) (by omega)
      rcases List.mem_or_eq_of_mem_set hx with hx | rfl
      · have := hs x hx; omega
      · rw [wrap64 (by omega) (by omega)]; omega
theorem atom_in {a : Val Y106} (h : isAtom a = true) : (List.length (α := Int) a.1 ≤ 4) ∧ inI a.2.1 ∧ ∀ x ∈ (a.1 : List Int), -400000000 ≤ x ∧ x ≤ 400000000 := by
  unfold isAtom at h
  simp only [Bool.and_eq_true, decide_eq_true_eq] at h
  obtain ⟨⟨⟨h1, h2⟩, h3⟩, _⟩ := h
  exact ⟨h1, numIn h2, fun x hx => of_decide_eq_true (List.all_eq_true.1 h3 x hx)⟩
theorem cell_in {c : Val Y36} (h : isCell c = true) : (0 ≤ (c.1 : Int) ∧ (c.1 : Int) ≤ 4) ∧ List.length (α := Val Y106) c.2 ≤ 16 ∧ ∀ a ∈ (c.2 : List (Val Y106)), isAtom a = true ∧ (List.length (α := Val (.int .i64)) a.1 : Int) = (c.1 : Int) := by
  unfold isCell at h
  simp only [Bool.and_eq_true, decide_eq_true_eq] at h
  obtain ⟨⟨h1, h2⟩, h3⟩ := h
  refine ⟨h1, by omega, fun a ha => ?_⟩
  have := List.all_eq_true.1 h3 a ha
  simp only [Bool.and_eq_true, decide_eq_true_eq] at this
  exact this
theorem place_pre {vars : List Int} {a : Val Y106} (h : isAtom a = true) {co : List Int} (hc : placeF (vars.zip a.1) (List.replicate 4 0) = some co) : mkAtom_pre co a.2.1 a.2.2 := by
  obtain ⟨h1, h2, h3⟩ := atom_in h
  obtain ⟨g1, g2⟩ := placeF_in _ _ co 0 hc (by simp) (fun p hp => h3 _ (List.of_mem_zip hp).2) (fun x hx => by rw [List.eq_of_mem_replicate hx]; omega) (by
    have : (vars.zip a.1).length ≤ List.length (α := Int) a.1 := by rw [List.length_zip]; omega
    omega)
  exact ⟨by omega, h2, g2⟩
theorem atoms_fold (vars : List Int) (r : Option (Vals [i36, i4])) (k : List (Val Y106) → Option (Vals [i36, i4])) : ∀ (xs : List (Val Y106)) (i : Nat) (s : List (Val Y106)), s.length + xs.length ≤ 1048576 →
    foldK (fun _ a (s : List (Val Y106)) K => match placeF (vars.zip a.1) (List.replicate 4 0) with
      | some co => bif (mkAtom co a.2.1 a.2.2).2 then chk (s.length + [(mkAtom co a.2.1 a.2.2).1].length ≤ 1048576) (K (s ++ [(mkAtom co a.2.1 a.2.2).1])) else r
      | none => r) i xs s k = match placeAtoms vars xs s with
      | some l => k l
      | none => r
  | [], _, _, _ => rfl
  | a :: xs, i, s, h => by
    simp only [List.length_cons] at h
    rw [foldK]; dsimp only; rw [placeAtoms]
    cases placeF (vars.zip a.1) (List.replicate 4 0) with
    | none => rfl
    | some co =>
      dsimp only
      cases (mkAtom co a.2.1 a.2.2).2 with
      | false => rfl
      | true =>
        simp only [cond_true]
        rw [chk_pos (by simp; omega)]
        exact atoms_fold vars r k xs (i + 1) _ (by simp; omega)
theorem lt4 {v : Int} {n : Nat} (h : 0 ≤ v ∧ v ≤ 3) (hs : n = 4) : 0 ≤ v ∧ v < (n : Int) := by omega
theorem toNat_lt4 {v : Int} {n : Nat} (h : 0 ≤ v ∧ v ≤ 3) (hs : n = 4) : v.toNat < n := by omega
abbrev noCell : Option (Vals [i36, i4]) := some (((0 : Int), ([] : List (Val Y106))), false, ())
theorem t19i (N : Nat) (vars : List (Val (.int .i64))) (xs out : List (Val Y106)) (i : Nat) (hi : i < xs.length) (d c1 c2 : Int) (K : List (Val (.int .i64)) → Option (Vals [i36, i4])) (hl : vars.length ≤ 1048576) (hc : List.length (α := Val (.int .i64)) xs[i].1 = vars.length) (n : Nat) (hn : vars.length < n) :
    m19_l9 N vars (i : Int) d xs c1 c2 out K n 0 (List.replicate 4 (dflt (.int .i64))) = match placeF (vars.zip xs[i].1) (List.replicate 4 0) with
      | some l => K l
      | none => noCell := by
  have hz : (List.zip (α := Int) (β := Int) vars xs[i].1).length = vars.length := by rw [List.length_zip]; omega
  refine (loop_fold (σ := Four) (xs := List.zip (α := Int) (β := Int) vars xs[i].1) (F := fun n j s => m19_l9 N vars (i : Int) d xs c1 c2 out K n j s.1) (step := fun _ (p : Int × Int) (s : Four) K => bif inR p.1 0 3 then K ⟨s.1.set p.1.toNat (IntKind.i64.wrap (s.1.getD p.1.toNat 0 + p.2)), by rw [List.length_set]; exact s.2⟩ else noCell) (k := fun s => K s.1) (by omega) (fun n j s hj => ?_) (fun n j s hj => ?_) n ⟨List.replicate 4 (dflt (.int .i64)), by simp⟩ (by omega)).trans (place_fold _ _ _)
  · have hj1 : j < vars.length := by omega
    have hj2 : j < List.length (α := Val (.int .i64)) xs[i].1 := by omega
    have hs : List.length (α := Val (.int .i64)) s.1 = 4 := s.2
    rw [m19_l9, bif_dec (by omega), chk_pos (by omega), getD_atI hj1, getD_atI hi, getD_atI hj2, bif_not, List.getElem_zip]
    dsimp only
    cases hr : inR vars[j] 0 3 with
    | false => rfl
    | true =>
      have hr' := of_decide_eq_true hr
      simp only [cond_true]
      rw [chk_pos (by omega), chk_pos (by omega), chk_pos (lt4 hr' hs), chk_pos (toNat_lt4 hr' hs), chk_pos (by omega), chk_pos (by omega), chk_pos (lt4 hr' hs), chk_pos (toNat_lt4 hr' hs)]
      rfl
  · rw [m19_l9, bif_decN (by omega)]
theorem t19 (N : Nat) (vars : List (Val (.int .i64))) (xs : List (Val Y106)) (d c1 c2 : Int) (K : List (Val Y106) → Option (Vals [i36, i4])) (hl : vars.length ≤ 1048576) (hN : vars.length < N) (hxl : xs.length ≤ 1048576) (hx : ∀ a ∈ xs, isAtom a = true ∧ List.length (α := Val (.int .i64)) a.1 = vars.length) (n : Nat) (hn : xs.length < n) :
    m19_l5 N vars d xs c1 c2 K n 0 [] = match placeAtoms vars xs [] with
      | some l => K l
      | none => noCell := by
  refine (loop_fold (xs := xs) (F := fun n i s => m19_l5 N vars d xs c1 c2 K n i s) (step := fun _ a (s : List (Val Y106)) K => match placeF (vars.zip a.1) (List.replicate 4 0) with
      | some co => bif (mkAtom co a.2.1 a.2.2).2 then chk (s.length + [(mkAtom co a.2.1 a.2.2).1].length ≤ 1048576) (K (s ++ [(mkAtom co a.2.1 a.2.2).1])) else noCell
      | none => noCell) (k := K) hxl (fun n i s hi => ?_) (fun n i s hi => ?_) n [] hn).trans (atoms_fold vars noCell K xs 0 [] (by simpa using hxl))
  · obtain ⟨ha, hc⟩ := hx _ (List.getElem_mem hi)
    have e4 : Int.toNat 4 = 4 := rfl
    rw [m19_l5, bif_dec (by omega), chk_pos (by decide), e4, t19i N vars xs s i hi d c1 c2 _ hl hc N hN]
    cases hp : placeF (List.zip (α := Int) (β := Int) vars xs[i].1) (List.replicate 4 0) with
    | none => rfl
    | some co =>
      dsimp only
      rw [chk_pos (by omega), chk_pos (by omega), getD_atI hi, chk_pos (place_pre ha hp), bif_not]
  · rw [m19_l5, bif_decN (by omega)]
def g19 : G := { ps := [i36, i32], rs := [i36, i4], dp := true, pre := fun x => placeCell_pre x.1 x.2.1, fn := fun x => ((placeCell x.1 x.2.1).1, (placeCell x.1 x.2.1).2, ()) }
theorem placeCell_some {c : Val Y36} {vars : List (Val (.int .i64))} : (match placeAtoms vars c.2 [] with
      | some l => some (((4 : Int), l), true, ())
      | none => noCell) = some ((match placeAtoms vars c.2 [] with
    | some l => (((4 : Int), l), true)
    | none => (((0 : Int), []), false) : Val Y36 × Bool).1, (match placeAtoms vars c.2 [] with
    | some l => (((4 : Int), l), true)
    | none => (((0 : Int), []), false) : Val Y36 × Bool).2, ()) := by
  cases placeAtoms vars c.2 [] <;> rfl
theorem e19 (c : Val Y36) (vars : List (Val (.int .i64))) (h : placeCell_pre c vars) : ∃ N, m19 N c vars = some ((placeCell c vars).1, (placeCell c vars).2, ()) := ⟨vars.length + List.length (α := Val Y106) c.2 + 1, by
  rw [m19, chk_pos (show isCell_pre c from h), placeCell, bif_not]
  cases hc : isCell c with
  | false => rfl
  | true =>
    obtain ⟨⟨h1, h2⟩, h3, h4⟩ := cell_in hc
    have h2 : @LE.le Int _ c.1 4 := h2
    simp only [cond_true, Bool.true_and]
    rw [bif_not]
    by_cases hv : (vars.length : Int) = (c.1 : Int)
    · rw [bif_dec hv, bif_dec hv]
      rw [t19 _ vars c.2 _ _ _ _ (by omega) (by omega) (by omega) (fun a ha => ⟨(h4 a ha).1, by have := (h4 a ha).2; omega⟩) _ (by omega)]
      exact placeCell_some
    · rw [bif_decN hv, bif_decN hv]⟩
theorem s19 : Sound Try.prog 19 g19 := sound_run (tt := tt) (Γ := Γ19) hT (ok_cons s64 (ok_cons s65 (ok_cons s66 ok_nil))) hm (fn := Try.f19) Try.func19 (c := Try.f19.body.getD .skip) (by kernel_rfl) (by kernel_rfl) fun x hx => by
  obtain ⟨N, h⟩ := e19 x.1 x.2.1 hx
  exact ⟨T19 N, p19, noSem_ok _, (run19 N x.1 x.2.1).trans h⟩
theorem t22i (N : Nat) (v25 vars co : List (Val (.int .i64))) (v26 out : List (Val Y106)) (c1 c2 c3 c4 c5 : Int) (b : Bool) (K : List (Val (.int .i64)) → Option (Vals [i36, i4])) (hl : vars.length ≤ 1048576) (hc : co.length = vars.length) (n : Nat) (hn : vars.length < n) :
    m22_l9 N v25 v26 c1 c2 vars vars.length c3 c4 co c5 b out K n 0 (List.replicate 4 (dflt (.int .i64))) = match placeF (vars.zip co) (List.replicate 4 0) with
      | some l => K l
      | none => noCell := by
  have hz : (List.zip (α := Int) (β := Int) vars co).length = vars.length := by rw [List.length_zip]; omega
  refine (loop_fold (σ := Four) (xs := List.zip (α := Int) (β := Int) vars co) (F := fun n j s => m22_l9 N v25 v26 c1 c2 vars vars.length c3 c4 co c5 b out K n j s.1) (step := fun _ (p : Int × Int) (s : Four) K => bif inR p.1 0 3 then K ⟨s.1.set p.1.toNat (IntKind.i64.wrap (s.1.getD p.1.toNat 0 + p.2)), by rw [List.length_set]; exact s.2⟩ else noCell) (k := fun s => K s.1) (by omega) (fun n j s hj => ?_) (fun n j s hj => ?_) n ⟨List.replicate 4 (dflt (.int .i64)), by simp⟩ (by omega)).trans (place_fold _ _ _)
  · have hj1 : j < vars.length := by omega
    have hj2 : j < co.length := by omega
    have hs : List.length (α := Val (.int .i64)) s.1 = 4 := s.2
    rw [m22_l9, bif_dec (by omega), chk_pos (by omega), getD_atI hj1, getD_atI hj2, bif_not, List.getElem_zip]
    dsimp only
    unfold isVar
    cases hr : inR vars[j] 0 3 with
    | false => rfl
    | true =>
      have hr' := of_decide_eq_true hr
      simp only [cond_true]
      rw [chk_pos (lt4 hr' hs), chk_pos (toNat_lt4 hr' hs), chk_pos (by omega), chk_pos (lt4 hr' hs), chk_pos (toNat_lt4 hr' hs)]
      rfl
  · rw [m22_l9, bif_decN (by omega)]
theorem t22 (N : Nat) (vars : List (Val (.int .i64))) (xs : List (Val Y106)) (c1 c2 : Int) (K : List (Val Y106) → Option (Vals [i36, i4])) (hl : vars.length ≤ 1048576) (hN : vars.length < N) (hxl : xs.length ≤ 1048576) (hx : ∀ a ∈ xs, isAtom a = true ∧ List.length (α := Val (.int .i64)) a.1 = vars.length) (n : Nat) (hn : xs.length < n) :
    m22_l5 N vars xs xs.length c1 c2 K n 0 [] = match placeAtoms vars xs [] with
      | some l => K l
      | none => noCell := by
  refine (loop_fold (xs := xs) (F := fun n i s => m22_l5 N vars xs xs.length c1 c2 K n i s) (step := fun _ a (s : List (Val Y106)) K => match placeF (vars.zip a.1) (List.replicate 4 0) with
      | some co => bif (mkAtom co a.2.1 a.2.2).2 then chk (s.length + [(mkAtom co a.2.1 a.2.2).1].length ≤ 1048576) (K (s ++ [(mkAtom co a.2.1 a.2.2).1])) else noCell
      | none => noCell) (k := K) hxl (fun n i s hi => ?_) (fun n i s hi => ?_) n [] hn).trans (atoms_fold vars noCell K xs 0 [] (by simpa using hxl))
  · obtain ⟨ha, hc⟩ := hx _ (List.getElem_mem hi)
    have e4 : Int.toNat 4 = 4 := rfl
    rw [m22_l5, bif_dec (by omega), chk_pos (by omega), chk_pos (by decide), e4, getD_atI hi, t22i N vars vars xs[i].1 xs s _ _ _ _ _ _ _ hl hc N hN]
    cases hp : placeF (List.zip (α := Int) (β := Int) vars xs[i].1) (List.replicate 4 0) with
    | none => rfl
    | some co =>
      dsimp only
      rw [chk_pos (place_pre ha hp), bif_not]
  · rw [m22_l5, bif_decN (by omega)]
def g22 : G := { ps := [i36, i32], rs := [i36, i4], dp := true, pre := fun _ => True, fn := fun x => ((placeCell x.1 x.2.1).1, (placeCell x.1 x.2.1).2, ()) }
theorem e22 (c : Val Y36) (vars : List (Val (.int .i64))) : ∃ N, m22 N c vars = some ((placeCell c vars).1, (placeCell c vars).2, ()) := ⟨vars.length + List.length (α := Val Y106) c.2 + 1, by
  rw [m22, placeCell, bif_not]
  cases hc : isCell c with
  | false => rfl
  | true =>
    obtain ⟨⟨h1, h2⟩, h3, h4⟩ := cell_in hc
    have h2 : @LE.le Int _ c.1 4 := h2
    simp only [cond_true, Bool.true_and]
    rw [bif_not]
    by_cases hv : (vars.length : Int) = (c.1 : Int)
    · rw [bif_dec hv, bif_dec hv]
      rw [t22 _ vars c.2 _ _ _ (by omega) (by omega) (by omega) (fun a ha => ⟨(h4 a ha).1, by have := (h4 a ha).2; omega⟩) _ (by omega)]
      exact placeCell_some
    · rw [bif_decN hv, bif_decN hv]⟩
theorem s22 : Sound Try.prog 22 g22 := sound_run (tt := tt) (Γ := Γ22) hT (ok_cons s68 (ok_cons s69 (ok_cons s70 ok_nil))) hm (fn := Try.f22) Try.func22 (c := Try.f22.body.getD .skip) (by kernel_rfl) (by kernel_rfl) fun x hx => by
  obtain ⟨N, h⟩ := e22 x.1 x.2.1
  exact ⟨T22 N, p22, noSem_ok _, (run22 N x.1 x.2.1).trans h⟩
end Go.T
