/- Atoms of numbers; cells' bounds. -/
import Derived.Test.YthefcjjgchekiaaA2
import Derived.Test.YthefcjjgchekiaaA3
set_option linter.unusedSimpArgs false
set_option linter.unusedVariables false
namespace Go.T
open Go Go.Proofs
set_option maxHeartbeats 4000000
set_option maxRecDepth 100000
theorem app_fold {ρ α β : Type} {f : α → β} {k : List β → Option ρ} : ∀ (xs : List α) (i : Nat) (s : List β), s.length + xs.length ≤ 1048576 → foldK (fun _ x (s : List β) K => chk (s.length + [f x].length ≤ 1048576) (K (s ++ [f x]))) i xs s k = k (s ++ xs.map f)
  | [], _, s, _ => by rw [foldK]; simp
  | x :: xs, i, s, h => by
    simp only [List.length_cons] at h
    rw [foldK, chk_pos (by simp; omega)]; dsimp only; rw [app_fold xs (i + 1) _ (by simp; omega)]
    simp
theorem tdiv_in {x : Int} {g : Nat} (h : inI x) : IntKind.i64.wrap (x.tdiv (g : Int)) = x.tdiv (g : Int) := by
  have : (x.tdiv (g : Int)).natAbs ≤ x.natAbs := by
    rw [Int.natAbs_tdiv]; exact Nat.div_le_self _ _
  unfold inI at h
  exact wrap64 (by omega) (by omega)
def mkAtomG (co : List (Val (.int .i64))) (k : Int) (s : Bool) (g : Nat) : Val Y36 × Bool :=
  bif isAtom (List.map (α := Int) (fun x => x.tdiv (g : Int)) co, k.tdiv (g : Int), s) then ((List.map (α := Int) (fun x => x.tdiv (g : Int)) co, k.tdiv (g : Int), s), true) else (([], (0 : Int), false), false)
def mkAtom (co : List (Val (.int .i64))) (k : Int) (s : Bool) : Val Y36 × Bool := mkAtomG co k s (max 1 (gL k.natAbs co))
def mkAtom_pre (co : List (Val (.int .i64))) (k : Int) (_ : Bool) : Prop := gcdL_pre co k
theorem mkAtom_eq (co : List (Val (.int .i64))) (k : Int) (s : Bool) (g : Nat) (hg : g = max 1 (gL k.natAbs co)) : (bif !isAtom (List.map (α := Int) (fun x => x.tdiv (g : Int)) co, k.tdiv (g : Int), s) then some ((([] : List (Val (.int .i64))), (0 : Int), false), false, ()) else some ((List.map (α := Int) (fun x => x.tdiv (g : Int)) co, k.tdiv (g : Int), s), true, ())) = some ((mkAtom co k s).1, (mkAtom co k s).2, ()) := by
  rw [mkAtom, ← hg, mkAtomG, bif_not]
  cases isAtom (List.map (α := Int) (fun x => x.tdiv (g : Int)) co, k.tdiv (g : Int), s) <;> rfl
-- spec.l2Atom
noncomputable def m84_l4 (N : Nat) (v3 : List (Val (.int .i64))) (v4 : Int) (v6 : Int) (v7 : Bool) (v8 : Int) (v9 : Bool) (k0 : (List (Val (.int .i64))) → Option (Vals [i36, i4])) : Nat → Int → (List (Val (.int .i64))) → Option (Vals [i36, i4])
  | 0, _, _ => none
  | n + 1, v5, v10 => bif (decide (v5 < (v3.length : Int))) then (chk (0 ≤ v5 ∧ v5 < (v3.length : Int)) (chk (v4 ≠ 0) (chk (v10.length + ([(IntKind.i64.wrap (((v3.getD v5.toNat (dflt (.int .i64))) : Int).tdiv v4))] : List (Val (.int .i64))).length ≤ 1048576) (m84_l4 N v3 v4 v6 v7 v8 v9 k0 n (IntKind.i64.wrap (v5 + (1 : Int))) (v10 ++ ([(IntKind.i64.wrap (((v3.getD v5.toNat (dflt (.int .i64))) : Int).tdiv v4))] : List (Val (.int .i64)))))))) else (k0 v10)
noncomputable def m84 (N : Nat) (v0 : List (Val (.int .i64))) (v1 : Int) (v2 : Bool) : Option (Vals [i36, i4]) := chk (gcdL_pre v0 v1) (chk ((max (1 : Int) ((gcdL v0 v1) : Int)) ≠ 0) (m84_l4 N v0 (max (1 : Int) ((gcdL v0 v1) : Int)) (0 : Int) false (IntKind.i64.wrap (v1.tdiv (max (1 : Int) ((gcdL v0 v1) : Int)))) v2 (fun (v12 : List (Val (.int .i64))) => bif (!((isAtom (v12, (IntKind.i64.wrap (v1.tdiv (max (1 : Int) ((gcdL v0 v1) : Int)))), v2)) : Bool)) then (some ((([] : List (Val (.int .i64))), (0 : Int), false), false, ())) else (some ((v12, (IntKind.i64.wrap (v1.tdiv (max (1 : Int) ((gcdL v0 v1) : Int)))), v2), true, ()))) N (0 : Int) ([] : List (Val (.int .i64)))))
def Γ84 : Gam := [(43, g43), (59, g59)]
theorem Γ84_43 : Gam.get Γ84 43 = some g43 := rfl
theorem Γ84_59 : Gam.get Γ84 59 = some g59 := rfl
def nl84_4 : Nm := ⟨[true, false, false, false, false, false, true, false, true, true, true], [.box 9 0 3 (.int .i64)]⟩
theorem nl84_4_fix : nl84_4.fix = [.box 9 0 3 (.int .i64)] := rfl
theorem nl84_4_keep : nl84_4.keep = [true, false, false, false, false, false, true, false, true, true, true] := rfl
def nx84_0 : Nm := ⟨[false, false, false, false, false, false, true, false, false, true], []⟩
theorem nx84_0_fix : nx84_0.fix = [] := rfl
theorem nx84_0_keep : nx84_0.keep = [false, false, false, false, false, false, true, false, false, true] := rfl
def nr84_6 : Nm := ⟨[true, false, false, false, false, false, true, false, true, true, true], []⟩
theorem nr84_6_fix : nr84_6.fix = [] := rfl
theorem nr84_6_keep : nr84_6.keep = [true, false, false, false, false, false, true, false, true, true, true] := rfl
def tr84 : Nat → Tree := fun i => if i = 6 then .quiet 2 (.quiet 3 (.quiet 4 (.quiet 5 (.quiet 6 (.quiet 7 (.alt 0 (.alt 1 (.alt 8 (.alt 9 (.quiet 10 (.alt 11 .done .stop)) .stop) .stop) (.alt 8 (.quiet 1 (.alt 9 (.quiet 10 (.alt 11 .done .stop)) .stop)) .stop)) (.alt 8 (.quiet 0 (.quiet 1 (.alt 9 (.quiet 10 (.alt 11 .done .stop)) .stop))) .stop))))))) else .done
def lp84 : Nat → Nm := fun i => if i = 4 then nl84_4 else ⟨[], []⟩
def jn84 : Nat → Option Jn := fun _ => none
def ex84 : Nat → Option Nm := fun i => if i = 0 then some nx84_0 else none
def rg84 : Nat → Option Nm := fun i => if i = 6 then some nr84_6 else none
theorem p84 : plansOk tr84 (Try.f84.body.getD .skip) = true := by kernel_rfl
def T84 (N : Nat) : Tab := { tr := tr84, lp := lp84, ex := ex84, rg := rg84, jn := jn84, fuel := N }
theorem T84_pins (N : Nat) : (T84 N).pins = false := rfl
theorem tb84 (N : Nat) : TbOk Try.prog (T84 N) := tb_none fun _ => rfl
theorem T84_tr (N i : Nat) : (T84 N).tr i = tr84 i := rfl
theorem T84_lp (N i : Nat) : (T84 N).lp i = lp84 i := rfl
theorem T84_ex (N i : Nat) : (T84 N).ex i = ex84 i := rfl
theorem T84_rg (N i : Nat) : (T84 N).rg i = rg84 i := rfl
theorem T84_jn (N i : Nat) : (T84 N).jn i = jn84 i := rfl
theorem T84_fuel (N : Nat) : (T84 N).fuel = N := rfl
noncomputable def c84_4 : Code := cut [true, true, true, false, true, true, true] (Try.f84.body.getD .skip)
theorem c84_4_at {N : Nat} {Q : X → St → Option (Vals [i36, i4])} {e : List LV} {h : List Blk} : runT tt Γ84 (T84 N) c84_4 Q ⟨e, h⟩ = runT tt Γ84 (T84 N) (cut [true, true, true, false, true, true, true] (Try.f84.body.getD .skip)) Q ⟨e, h⟩ := rfl
theorem r84_l4 (N : Nat) (v3 : List (Val (.int .i64))) (v4 : Int) (v6 : Int) (v7 : Bool) (v8 : Int) (v9 : Bool) {k0 : (List (Val (.int .i64))) → Option (Vals [i36, i4])} {Q : X → St → Option (Vals [i36, i4])} {c : Code} (hc : c = c84_4) (hret : ∀ st, Q .ret st = retS tt true [i36, i4] [.cell 6 36, .tmp 7] st) (h0 : ∀ (v11 : List (Val (.int .i64))), Q (.exit 0) ⟨[u, u, u, u, u, u, .one (.ptr 0 0 0), u, u, .one (.ptr 1 0 0), u, u, u, u, u, u, u, u, u, u, u, u, u, u, u, u, u, u, u, u, u, u, u, u, u, u, u, u, u, u, u, u], [.box [.nils, .int .i64 v6, .bool v7], .box [.own 2, .int .i64 v8, .bool v9], .row 3 (.int .i64) v11 true true 0]⟩ = k0 v11) : ∀ (n : Nat) (v5 : Int) (v10 : List (Val (.int .i64))), loopR (runT tt Γ84 (T84 N) c) false nl84_4 Q n ⟨[.one (.sl 3 (.int .i64) v3 3), u, u, u, u, u, .one (.ptr 0 0 0), u, .one (.int .i64 v4), .one (.ptr 1 0 0), .one (.int .i64 v5), u, u, u, u, u, u, u, u, u, u, u, u, u, u, u, u, u, u, u, u, u, u, u, u, u, u, u, u, u, u, u], [.box [.nils, .int .i64 v6, .bool v7], .box [.own 2, .int .i64 v8, .bool v9], .row 3 (.int .i64) v10 true true 0]⟩ = m84_l4 N v3 v4 v6 v7 v8 v9 k0 n v5 v10 := by
  subst hc; intro n; induction n with
  | zero => intros; rfl
  | succ n ih =>
    intro v5 v10
    rw [loop_succ, c84_4_at, m84_l4]; unfold Try.f84
    simp (maxSteps := 10000000) -implicitDefEqProofs [T84_tr, tr84, T84_lp, lp84, T84_ex, ex84, T84_rg, rg84, T84_jn, jn84, T84_fuel, T84_pins, nl84_4_fix, nl84_4_keep, nx84_0_fix, nx84_0_keep, nr84_6_fix, nr84_6_keep, Γ84_43, Γ84_59, g43, g59, hret, h0, ih]
theorem run84 (N : Nat) (v0 : List (Val (.int .i64))) (v1 : Int) (v2 : Bool) : runT tt Γ84 (T84 N) (Try.f84.body.getD .skip) (retR tt true [i36, i4] [.cell 6 36, .tmp 7]) (entryP [i25, i3, i4] 42 (v0, v1, v2, ())) = m84 N v0 v1 v2 := by
  unfold Try.f84
  simp (maxSteps := 10000000) -implicitDefEqProofs [T84_tr, tr84, T84_lp, lp84, T84_ex, ex84, T84_rg, rg84, T84_jn, jn84, T84_fuel, T84_pins, nl84_4_fix, nl84_4_keep, nx84_0_fix, nx84_0_keep, nr84_6_fix, nr84_6_keep, Γ84_43, Γ84_59, g43, g59]
  rewrite [r84_l4 (k0 := (fun (v12 : List (Val (.int .i64))) => bif (!((isAtom (v12, (IntKind.i64.wrap (v1.tdiv (max (1 : Int) ((gcdL v0 v1) : Int)))), v2)) : Bool)) then (some ((([] : List (Val (.int .i64))), (0 : Int), false), false, ())) else (some ((v12, (IntKind.i64.wrap (v1.tdiv (max (1 : Int) ((gcdL v0 v1) : Int)))), v2), true, ())))) N _ _ _ _ _ _ ?_ ?_ ?_]
  · rewrite [m84]; first | rfl | simp (maxSteps := 10000000) -implicitDefEqProofs []
  · rfl
  · intro; simp only [seqR_ret, blockR_ret, retR_ret, retX_ret]
  · intro v12; simp (maxSteps := 10000000) -implicitDefEqProofs [T84_tr, tr84, T84_lp, lp84, T84_ex, ex84, T84_rg, rg84, T84_jn, jn84, T84_fuel, T84_pins, nl84_4_fix, nl84_4_keep, nx84_0_fix, nx84_0_keep, nr84_6_fix, nr84_6_keep, Γ84_43, Γ84_59, g43, g59]
-- impl.makeOf
noncomputable def m91_l6 (N : Nat) (v3 : Int) (v4 : List (Val (.int .i64))) (v5 : Int) (v7 : Int) (v8 : Bool) (v9 : Int) (v10 : Bool) (k0 : (List (Val (.int .i64))) → Option (Vals [i36, i4])) : Nat → Int → (List (Val (.int .i64))) → Option (Vals [i36, i4])
  | 0, _, _ => none
  | n + 1, v6, v11 => bif (decide (v6 < v5)) then (chk (0 ≤ v6 ∧ v6 < (v4.length : Int)) (chk (v3 ≠ 0) (chk (0 ≤ v6 ∧ v6 < (v11.length : Int)) (chk (v6.toNat < v11.length) (m91_l6 N v3 v4 v5 v7 v8 v9 v10 k0 n (IntKind.i64.wrap (v6 + (1 : Int))) (v11.set v6.toNat (IntKind.i64.wrap (((v4.getD v6.toNat (dflt (.int .i64))) : Int).tdiv v3)))))))) else (k0 v11)
noncomputable def m91 (N : Nat) (v0 : List (Val (.int .i64))) (v1 : Int) (v2 : Bool) : Option (Vals [i36, i4]) := chk (gcdM_pre v0) (chk (gcdI_pre ((gcdM v0) : Int) v1) (bif (decide (((gcdI ((gcdM v0) : Int) v1) : Int) = (0 : Int))) then (chk ((1 : Int) ≠ 0) (chk (0 ≤ (v0.length : Int) ∧ (v0.length : Int) ≤ (v0.length : Int) ∧ (v0.length : Int) ≤ 1048576) (m91_l6 N (1 : Int) v0 (v0.length : Int) (0 : Int) false (IntKind.i64.wrap (v1.tdiv (1 : Int))) v2 (fun (v13 : List (Val (.int .i64))) => bif (!((isAtom (v13, (IntKind.i64.wrap (v1.tdiv (1 : Int))), v2)) : Bool)) then (some ((([] : List (Val (.int .i64))), (0 : Int), false), false, ())) else (some ((v13, (IntKind.i64.wrap (v1.tdiv (1 : Int))), v2), true, ()))) N (0 : Int) (List.replicate (v0.length : Int).toNat (dflt (.int .i64)))))) else (chk (((gcdI ((gcdM v0) : Int) v1) : Int) ≠ 0) (chk (0 ≤ (v0.length : Int) ∧ (v0.length : Int) ≤ (v0.length : Int) ∧ (v0.length : Int) ≤ 1048576) (m91_l6 N ((gcdI ((gcdM v0) : Int) v1) : Int) v0 (v0.length : Int) (0 : Int) false (IntKind.i64.wrap (v1.tdiv ((gcdI ((gcdM v0) : Int) v1) : Int))) v2 (fun (v4 : List (Val (.int .i64))) => bif (!((isAtom (v4, (IntKind.i64.wrap (v1.tdiv ((gcdI ((gcdM v0) : Int) v1) : Int))), v2)) : Bool)) then (some ((([] : List (Val (.int .i64))), (0 : Int), false), false, ())) else (some ((v4, (IntKind.i64.wrap (v1.tdiv ((gcdI ((gcdM v0) : Int) v1) : Int))), v2), true, ()))) N (0 : Int) (List.replicate (v0.length : Int).toNat (dflt (.int .i64))))))))
def Γ91 : Gam := [(45, g45), (65, g65), (66, g66)]
theorem Γ91_45 : Gam.get Γ91 45 = some g45 := rfl
theorem Γ91_65 : Gam.get Γ91 65 = some g65 := rfl
theorem Γ91_66 : Gam.get Γ91 66 = some g66 := rfl
def nl91_6 : Nm := ⟨[false, false, false, false, false, false, true, false, true, true, false, false, false, false, false, false, false, false, false, false, false, false, false, false, false, false, true, true, true], []⟩
theorem nl91_6_fix : nl91_6.fix = [] := rfl
theorem nl91_6_keep : nl91_6.keep = [false, false, false, false, false, false, true, false, true, true, false, false, false, false, false, false, false, false, false, false, false, false, false, false, false, false, true, true, true] := rfl
def nx91_0 : Nm := ⟨[false, false, false, false, false, false, true, false, false, true], []⟩
theorem nx91_0_fix : nx91_0.fix = [] := rfl
theorem nx91_0_keep : nx91_0.keep = [false, false, false, false, false, false, true, false, false, true] := rfl
def nr91_4 : Nm := ⟨[true, false, false, false, false, false, true, false, true, true], []⟩
theorem nr91_4_fix : nr91_4.fix = [] := rfl
theorem nr91_4_keep : nr91_4.keep = [true, false, false, false, false, false, true, false, true, true] := rfl
def tr91 : Nat → Tree := fun i => if i = 4 then .first 0 (.first 3 (.first 4 (.first 5 (.first 6 (.grow 1 (.alt 2 (.first 7 (.alt 8 (.alt 9 .done .stop) .stop)) (.alt 8 (.alt 2 (.quiet 7 (.alt 9 .done .stop)) .stop) .stop))))))) else if i = 8 then .quiet 0 (.quiet 1 (.quiet 2 (.quiet 3 (.quiet 4 (.quiet 5 (.quiet 6 (.alt 7 .done .stop))))))) else .done
def lp91 : Nat → Nm := fun i => if i = 6 then nl91_6 else ⟨[], []⟩
def jn91 : Nat → Option Jn := fun _ => none
def ex91 : Nat → Option Nm := fun i => if i = 0 then some nx91_0 else none
def rg91 : Nat → Option Nm := fun i => if i = 4 then some nr91_4 else none
theorem p91 : plansOk tr91 (Try.f91.body.getD .skip) = true := by kernel_rfl
def T91 (N : Nat) : Tab := { tr := tr91, lp := lp91, ex := ex91, rg := rg91, jn := jn91, fuel := N }
theorem T91_pins (N : Nat) : (T91 N).pins = false := rfl
theorem tb91 (N : Nat) : TbOk Try.prog (T91 N) := tb_none fun _ => rfl
theorem T91_tr (N i : Nat) : (T91 N).tr i = tr91 i := rfl
theorem T91_lp (N i : Nat) : (T91 N).lp i = lp91 i := rfl
theorem T91_ex (N i : Nat) : (T91 N).ex i = ex91 i := rfl
theorem T91_rg (N i : Nat) : (T91 N).rg i = rg91 i := rfl
theorem T91_jn (N i : Nat) : (T91 N).jn i = jn91 i := rfl
theorem T91_fuel (N : Nat) : (T91 N).fuel = N := rfl
noncomputable def c91_6 : Code := cut [true, true, true, true, false, true, true, true] (Try.f91.body.getD .skip)
theorem c91_6_at {N : Nat} {Q : X → St → Option (Vals [i36, i4])} {e : List LV} {h : List Blk} : runT tt Γ91 (T91 N) c91_6 Q ⟨e, h⟩ = runT tt Γ91 (T91 N) (cut [true, true, true, true, false, true, true, true] (Try.f91.body.getD .skip)) Q ⟨e, h⟩ := rfl
theorem r91_l6 (N : Nat) (v3 : Int) (v4 : List (Val (.int .i64))) (v5 : Int) (v7 : Int) (v8 : Bool) (v9 : Int) (v10 : Bool) {k0 : (List (Val (.int .i64))) → Option (Vals [i36, i4])} {Q : X → St → Option (Vals [i36, i4])} {c : Code} (hc : c = c91_6) (hret : ∀ st, Q .ret st = retS tt true [i36, i4] [.cell 6 36, .tmp 7] st) (h0 : ∀ (v12 : List (Val (.int .i64))), Q (.exit 0) ⟨[u, u, u, u, u, u, .one (.ptr 0 0 0), u, u, .one (.ptr 1 0 0), u, u, u, u, u, u, u, u, u, u, u, u, u, u, u, u, u, u, u, u, u, u, u, u, u, u, u, u, u, u, u, u, u, u, u, u], [.box [.nils, .int .i64 v7, .bool v8], .box [.own 2, .int .i64 v9, .bool v10], .row 3 (.int .i64) v12 true true 0]⟩ = k0 v12) : ∀ (n : Nat) (v6 : Int) (v11 : List (Val (.int .i64))), loopR (runT tt Γ91 (T91 N) c) false nl91_6 Q n ⟨[u, u, u, u, u, u, .one (.ptr 0 0 0), u, .one (.int .i64 v3), .one (.ptr 1 0 0), u, u, u, u, u, u, u, u, u, u, u, u, u, u, u, u, .one (.sl 3 (.int .i64) v4 3), .one (.int .i64 v5), .one (.int .i64 v6), u, u, u, u, u, u, u, u, u, u, u, u, u, u, u, u, u], [.box [.nils, .int .i64 v7, .bool v8], .box [.own 2, .int .i64 v9, .bool v10], .row 3 (.int .i64) v11 true true 0]⟩ = m91_l6 N v3 v4 v5 v7 v8 v9 v10 k0 n v6 v11 := by
  subst hc; intro n; induction n with
  | zero => intros; rfl
  | succ n ih =>
    intro v6 v11
    rw [loop_succ, c91_6_at, m91_l6]; unfold Try.f91
    simp (maxSteps := 10000000) -implicitDefEqProofs [T91_tr, tr91, T91_lp, lp91, T91_ex, ex91, T91_rg, rg91, T91_jn, jn91, T91_fuel, T91_pins, nl91_6_fix, nl91_6_keep, nx91_0_fix, nx91_0_keep, nr91_4_fix, nr91_4_keep, Γ91_45, Γ91_65, Γ91_66, g45, g65, g66, hret, h0, ih]
theorem run91 (N : Nat) (v0 : List (Val (.int .i64))) (v1 : Int) (v2 : Bool) : runT tt Γ91 (T91 N) (Try.f91.body.getD .skip) (retR tt true [i36, i4] [.cell 6 36, .tmp 7]) (entryP [i25, i3, i4] 46 (v0, v1, v2, ())) = m91 N v0 v1 v2 := by
  unfold Try.f91
  simp (maxSteps := 10000000) -implicitDefEqProofs [T91_tr, tr91, T91_lp, lp91, T91_ex, ex91, T91_rg, rg91, T91_jn, jn91, T91_fuel, T91_pins, nl91_6_fix, nl91_6_keep, nx91_0_fix, nx91_0_keep, nr91_4_fix, nr91_4_keep, Γ91_45, Γ91_65, Γ91_66, g45, g65, g66]
  rewrite [r91_l6 (k0 := (fun (v13 : List (Val (.int .i64))) => bif (!((isAtom (v13, (IntKind.i64.wrap (v1.tdiv (1 : Int))), v2)) : Bool)) then (some ((([] : List (Val (.int .i64))), (0 : Int), false), false, ())) else (some ((v13, (IntKind.i64.wrap (v1.tdiv (1 : Int))), v2), true, ())))) N _ _ _ _ _ _ _ ?_ ?_ ?_]
  rewrite [r91_l6 (k0 := (fun (v4 : List (Val (.int .i64))) => bif (!((isAtom (v4, (IntKind.i64.wrap (v1.tdiv ((gcdI ((gcdM v0) : Int) v1) : Int))), v2)) : Bool)) then (some ((([] : List (Val (.int .i64))), (0 : Int), false), false, ())) else (some ((v4, (IntKind.i64.wrap (v1.tdiv ((gcdI ((gcdM v0) : Int) v1) : Int))), v2), true, ())))) N _ _ _ _ _ _ _ ?_ ?_ ?_]
  · rewrite [m91]; first | rfl | simp (maxSteps := 10000000) -implicitDefEqProofs []
  · rfl
  · intro; simp only [seqR_ret, blockR_ret, retR_ret, retX_ret]
  · intro v4; simp (maxSteps := 10000000) -implicitDefEqProofs [T91_tr, tr91, T91_lp, lp91, T91_ex, ex91, T91_rg, rg91, T91_jn, jn91, T91_fuel, T91_pins, nl91_6_fix, nl91_6_keep, nx91_0_fix, nx91_0_keep, nr91_4_fix, nr91_4_keep, Γ91_45, Γ91_65, Γ91_66, g45, g65, g66]
  · rfl
  · intro; simp only [seqR_ret, blockR_ret, retR_ret, retX_ret]
  · intro v13; simp (maxSteps := 10000000) -implicitDefEqProofs [T91_tr, tr91, T91_lp, lp91, T91_ex, ex91, T91_rg, rg91, T91_jn, jn91, T91_fuel, T91_pins, nl91_6_fix, nl91_6_keep, nx91_0_fix, nx91_0_keep, nr91_4_fix, nr91_4_keep, Γ91_45, Γ91_65, Γ91_66, g45, g65, g66]
def g84 : G := { ps := [i25, i3, i4], rs := [i36, i4], dp := true, pre := fun x => mkAtom_pre x.1 x.2.1 x.2.2.1, fn := fun x => ((mkAtom x.1 x.2.1 x.2.2.1).1, (mkAtom x.1 x.2.1 x.2.2.1).2, ()) }
def g91 : G := { ps := [i25, i3, i4], rs := [i36, i4], dp := true, pre := fun x => mkAtom_pre x.1 x.2.1 x.2.2.1, fn := fun x => ((mkAtom x.1 x.2.1 x.2.2.1).1, (mkAtom x.1 x.2.1 x.2.2.1).2, ()) }
theorem t84 (N : Nat) (co : List (Val (.int .i64))) (g : Nat) (hg1 : (g : Int) ≠ 0) (a : Int) (b : Bool) (c : Int) (s : Bool) (K : List (Val (.int .i64)) → Option (Vals [i36, i4])) (hl : co.length ≤ 1048576) (hx : ∀ x ∈ co, inI x) (n : Nat) (hn : co.length < n) :
    m84_l4 N co (g : Int) a b c s K n 0 [] = K (List.map (α := Int) (fun x => x.tdiv (g : Int)) co) := by
  refine (loop_fold (F := fun n i s' => m84_l4 N co (g : Int) a b c s K n i s') (step := fun _ x (s : List (Val (.int .i64))) K => chk (s.length + [IntKind.i64.wrap (Int.tdiv x (g : Int))].length ≤ 1048576) (K (s ++ [IntKind.i64.wrap (Int.tdiv x (g : Int))]))) (k := K) hl (fun n i s' hi => ?_) (fun n i s' hi => ?_) n _ hn).trans ((app_fold (f := fun x => IntKind.i64.wrap (Int.tdiv x (g : Int))) (k := K) co 0 [] (by simpa using hl)).trans ?_)
  · rw [m84_l4, bif_dec (by omega), chk_pos (by omega), chk_pos hg1, getD_atI hi]
  · rw [m84_l4, bif_decN (by omega)]
  · have e : List.map (fun x => IntKind.i64.wrap (Int.tdiv x (g : Int))) co = List.map (α := Int) (fun x => x.tdiv (g : Int)) co := List.map_congr_left fun x hx' => tdiv_in (hx x hx')
    rw [List.nil_append, e]
theorem e84 (co : List (Val (.int .i64))) (k : Int) (s : Bool) (h : mkAtom_pre co k s) : ∃ N, m84 N co k s = some ((mkAtom co k s).1, (mkAtom co k s).2, ()) := ⟨co.length + 1, by
  obtain ⟨hl, hk, hx⟩ := h
  have hg : max (1 : Int) (gcdL co k) = ((max 1 (gL k.natAbs co) : Nat) : Int) := by unfold gcdL; omega
  rw [m84, chk_pos (show gcdL_pre co k from ⟨hl, hk, hx⟩), hg, chk_pos (by omega), tdiv_in hk]
  generalize hG : max 1 (gL k.natAbs co) = g
  have hg1 : (g : Int) ≠ 0 := by omega
  rw [t84 _ co g hg1 0 false _ s _ hl hx _ (Nat.lt_succ_self _)]
  exact mkAtom_eq co k s g hG.symm⟩
theorem s84 : Sound Try.prog 84 g84 := sound_run (tt := tt) (Γ := Γ84) hT (ok_cons s43 (ok_cons s59 ok_nil)) hm (fn := Try.f84) Try.func84 (c := Try.f84.body.getD .skip) (by kernel_rfl) (by kernel_rfl) fun x hx => by
  obtain ⟨N, h⟩ := e84 x.1 x.2.1 x.2.2.1 hx
  exact ⟨T84 N, p84, noSem_ok _, tb84 N, (run84 N x.1 x.2.1 x.2.2.1).trans h⟩
theorem t91 (N : Nat) (co : List (Val (.int .i64))) (g : Nat) (hg1 : (g : Int) ≠ 0) (a : Int) (b : Bool) (c : Int) (s : Bool) (K : List (Val (.int .i64)) → Option (Vals [i36, i4])) (hl : co.length ≤ 1048576) (hx : ∀ x ∈ co, inI x) (n : Nat) (hn : co.length < n) :
    m91_l6 N (g : Int) co co.length a b c s K n 0 (List.replicate co.length (dflt (.int .i64))) = K (List.map (α := Int) (fun x => x.tdiv (g : Int)) co) := by
  have := copy_loop (xs := List.map (α := Int) (fun x => x.tdiv (g : Int)) co) (F := fun n i s' => m91_l6 N (g : Int) co co.length a b c s K n i s') (k := K) (dflt (.int .i64)) (by simpa using hl) (fun n i s' hi hs => ?_) (fun n i s' hi => ?_) n (by simpa using hn)
  · simpa using this
  · have hi : i < co.length := by simpa using hi
    have hs : s'.length = co.length := by simpa using hs
    rw [m91_l6, bif_dec (by omega), chk_pos (by omega), chk_pos hg1, chk_pos (by omega), chk_pos (by omega), getD_atI hi, tdiv_in (hx _ (List.getElem_mem hi))]
    simp
  · have hi : co.length ≤ i := by simpa using hi
    rw [m91_l6, bif_decN (by omega)]
theorem e91 (co : List (Val (.int .i64))) (k : Int) (s : Bool) (h : mkAtom_pre co k s) : ∃ N, m91 N co k s = some ((mkAtom co k s).1, (mkAtom co k s).2, ()) := ⟨co.length + 1, by
  obtain ⟨hl, hk, hx⟩ := h
  have eg : gcdI (gcdM co) k = ((gL k.natAbs co : Nat) : Int) := by
    unfold gcdI gcdM
    rw [Int.natAbs_natCast, ← gL_gcd, Nat.gcd_zero_left]
  rw [m91, chk_pos (show gcdM_pre co from ⟨hl, hx⟩), chk_pos (show gcdI_pre (gcdM co) k from ⟨gL_in co 0 (by omega) hx, hk⟩), eg, Int.toNat_natCast]
  by_cases h0 : gL k.natAbs co = 0
  · rw [bif_dec (by omega), chk_pos (by decide), chk_pos (chk_len hl)]
    have e1 : ((1 : Nat) : Int) = 1 := rfl
    have := tdiv_in (g := 1) hk
    rw [e1] at this
    rw [this]
    have t := t91 (co.length + 1) co 1 (by decide) 0 false (k.tdiv 1) s (fun v => bif !isAtom (v, k.tdiv 1, s) then some ((([] : List (Val (.int .i64))), (0 : Int), false), false, ()) else some ((v, k.tdiv 1, s), true, ())) hl hx _ (Nat.lt_succ_self _)
    rw [e1] at t
    rw [t]
    exact mkAtom_eq co k s 1 (by omega)
  · rw [bif_decN (by omega), chk_pos (by omega), chk_pos (chk_len hl), tdiv_in hk]
    rw [t91 (co.length + 1) co (gL k.natAbs co) (by omega) 0 false _ s _ hl hx _ (Nat.lt_succ_self _)]
    exact mkAtom_eq co k s _ (by omega)⟩
theorem s91 : Sound Try.prog 91 g91 := sound_run (tt := tt) (Γ := Γ91) hT (ok_cons s45 (ok_cons s65 (ok_cons s66 ok_nil))) hm (fn := Try.f91) Try.func91 (c := Try.f91.body.getD .skip) (by kernel_rfl) (by kernel_rfl) fun x hx => by
  obtain ⟨N, h⟩ := e91 x.1 x.2.1 x.2.2.1 hx
  exact ⟨T91 N, p91, noSem_ok _, tb91 N, (run91 N x.1 x.2.1 x.2.2.1).trans h⟩
theorem atom_in {a : Val Y36} (h : isAtom a = true) : (List.length (α := Int) a.1 ≤ 4) ∧ inI a.2.1 ∧ ∀ x ∈ (a.1 : List Int), -400000000 ≤ x ∧ x ≤ 400000000 := by
  unfold isAtom at h
  simp only [Bool.and_eq_true, decide_eq_true_eq] at h
  obtain ⟨⟨⟨h1, h2⟩, h3⟩, _⟩ := h
  exact ⟨h1, numIn h2, fun x hx => of_decide_eq_true (List.all_eq_true.1 h3 x hx)⟩
theorem cell_in {c : Val Y32} (h : isCell c = true) : (0 ≤ (c.1 : Int) ∧ (c.1 : Int) ≤ 4) ∧ List.length (α := Val Y36) c.2 ≤ 16 ∧ ∀ a ∈ (c.2 : List (Val Y36)), isAtom a = true ∧ (List.length (α := Val (.int .i64)) a.1 : Int) = (c.1 : Int) := by
  unfold isCell at h
  simp only [Bool.and_eq_true, decide_eq_true_eq] at h
  obtain ⟨⟨h1, h2⟩, h3⟩ := h
  refine ⟨h1, by omega, fun a ha => ?_⟩
  have := List.all_eq_true.1 h3 a ha
  simp only [Bool.and_eq_true, decide_eq_true_eq] at this
  exact this
end Go.T
