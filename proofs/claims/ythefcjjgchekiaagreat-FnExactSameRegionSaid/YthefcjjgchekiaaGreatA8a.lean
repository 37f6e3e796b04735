/- Atoms of numbers; cells' bounds. -/
import Derived.Test.YthefcjjgchekiaaGreatA2
import Derived.Test.YthefcjjgchekiaaGreatA3
set_option linter.unusedSimpArgs false
set_option linter.unusedVariables false
namespace Go.T
open Go Go.Proofs
set_option maxHeartbeats 4000000
set_option maxRecDepth 100000
theorem app_fold {ρ α β : Type} {f : α → β} {k : List β → Option ρ} : ∀ (xs : List α) (i : Nat) (s : List β), s.length + xs.length ≤ 1048576 → foldK (fun _ x (s : List β) K => chk (s.length + [f x].length ≤ 1048576) (K (s ++ [f x]))) i xs s k = k (s ++ xs.map f)
  | [], _, s, _ => by rw [foldK]; simp
  | x :: xs, i, s, h => by
    simp only [List.length_cons] at h
    rw [foldK, chk_pos (by simp; omega)]; dsimp only; rw [app_fold xs (i + 1) _ (by simp; omega)]
    simp
theorem tdiv_in {x : Int} {g : Nat} (h : inI x) : IntKind.i64.wrap (x.tdiv (g : Int)) = x.tdiv (g : Int) := by
  have : (x.tdiv (g : Int)).natAbs ≤ x.natAbs := by
    rw [Int.natAbs_tdiv]; exact Nat.div_le_self _ _
  unfold inI at h
  exact wrap64 (by omega) (by omega)
def mkAtomG (co : List (Val (.int .i64))) (k : Int) (s : Bool) (g : Nat) : Val Y108 × Bool :=
  bif isAtom (List.map (α := Int) (fun x => x.tdiv (g : Int)) co, k.tdiv (g : Int), s) then ((List.map (α := Int) (fun x => x.tdiv (g : Int)) co, k.tdiv (g : Int), s), true) else (([], (0 : Int), false), false)
def mkAtom (co : List (Val (.int .i64))) (k : Int) (s : Bool) : Val Y108 × Bool := mkAtomG co k s (max 1 (gL k.natAbs co))
def mkAtom_pre (co : List (Val (.int .i64))) (k : Int) (_ : Bool) : Prop := gcdL_pre co k
theorem mkAtom_eq (co : List (Val (.int .i64))) (k : Int) (s : Bool) (g : Nat) (hg : g = max 1 (gL k.natAbs co)) : (bif !isAtom (List.map (α := Int) (fun x => x.tdiv (g : Int)) co, k.tdiv (g : Int), s) then some ((([] : List (Val (.int .i64))), (0 : Int), false), false, ()) else some ((List.map (α := Int) (fun x => x.tdiv (g : Int)) co, k.tdiv (g : Int), s), true, ())) = some ((mkAtom co k s).1, (mkAtom co k s).2, ()) := by
  rw [mkAtom, ← hg, mkAtomG, bif_not]
  cases isAtom (List.map (α := Int) (fun x => x.tdiv (g : Int)) co, k.tdiv (g : Int), s) <;> rfl
noncomputable def m149_l4 (N : Nat) (v3 : List (Val (.int .i64))) (v4 : Int) (v6 : Int) (v7 : Bool) (v8 : Int) (v9 : Bool) (k0 : (List (Val (.int .i64))) → Option (Vals [i108, i4])) : Nat → Int → (List (Val (.int .i64))) → Option (Vals [i108, i4])
  | 0, _, _ => none
  | n + 1, v5, v10 => bif (decide (v5 < (v3.length : Int))) then (chk (0 ≤ v5 ∧ v5 < (v3.length : Int)) (chk (v4 ≠ 0) (chk (v10.length + ([(IntKind.i64.wrap (((v3.getD v5.toNat (dflt (.int .i64))) : Int).tdiv v4))] : List (Val (.int .i64))).length ≤ 1048576) (m149_l4 N v3 v4 v6 v7 v8 v9 k0 n (IntKind.i64.wrap (v5 + (1 : Int))) (v10 ++ ([(IntKind.i64.wrap (((v3.getD v5.toNat (dflt (.int .i64))) : Int).tdiv v4))] : List (Val (.int .i64)))))))) else (k0 v10)
noncomputable def m149 (N : Nat) (v0 : List (Val (.int .i64))) (v1 : Int) (v2 : Bool) : Option (Vals [i108, i4]) := chk (gcdL_pre v0 v1) (chk ((max (1 : Int) ((gcdL v0 v1) : Int)) ≠ 0) (m149_l4 N v0 (max (1 : Int) ((gcdL v0 v1) : Int)) (0 : Int) false (IntKind.i64.wrap (v1.tdiv (max (1 : Int) ((gcdL v0 v1) : Int)))) v2 (fun (v12 : List (Val (.int .i64))) => bif (!((isAtom (v12, (IntKind.i64.wrap (v1.tdiv (max (1 : Int) ((gcdL v0 v1) : Int)))), v2)) : Bool)) then (some ((([] : List (Val (.int .i64))), (0 : Int), false), false, ())) else (some ((v12, (IntKind.i64.wrap (v1.tdiv (max (1 : Int) ((gcdL v0 v1) : Int)))), v2), true, ()))) N (0 : Int) ([] : List (Val (.int .i64)))))
def Γ149 : Gam := [(193, g193), (231, g231)]
theorem Γ149_193 : Gam.get Γ149 193 = some g193 := rfl
theorem Γ149_231 : Gam.get Γ149 231 = some g231 := rfl
def nl149_4 : Nm := ⟨[true, false, false, false, false, false, true, false, true, true, true], [.box 9 0 3 (.int .i64)], false⟩
theorem nl149_4_zero : nl149_4.zero = false := rfl
theorem nl149_4_fix : nl149_4.fix = [.box 9 0 3 (.int .i64)] := rfl
theorem nl149_4_keep : nl149_4.keep = [true, false, false, false, false, false, true, false, true, true, true] := rfl
def nx149_0 : Nm := ⟨[false, false, false, false, false, false, true, false, false, true], [], false⟩
theorem nx149_0_zero : nx149_0.zero = false := rfl
theorem nx149_0_fix : nx149_0.fix = [] := rfl
theorem nx149_0_keep : nx149_0.keep = [false, false, false, false, false, false, true, false, false, true] := rfl
def nr149_6 : Nm := ⟨[true, false, false, false, false, false, true, false, true, true, true], [], false⟩
theorem nr149_6_zero : nr149_6.zero = false := rfl
theorem nr149_6_fix : nr149_6.fix = [] := rfl
theorem nr149_6_keep : nr149_6.keep = [true, false, false, false, false, false, true, false, true, true, true] := rfl
def tr149 : Nat → Tree := fun i => if i = 6 then .quiet 2 (.quiet 3 (.quiet 4 (.quiet 5 (.quiet 6 (.quiet 7 (.alt 0 (.alt 1 (.alt 8 (.alt 9 (.quiet 10 (.alt 11 .done .stop)) .stop) .stop) (.alt 8 (.quiet 1 (.alt 9 (.quiet 10 (.alt 11 .done .stop)) .stop)) .stop)) (.alt 8 (.quiet 0 (.quiet 1 (.alt 9 (.quiet 10 (.alt 11 .done .stop)) .stop))) .stop))))))) else .done
def lp149 : Nat → Nm := fun i => if i = 4 then nl149_4 else ⟨[], [], false⟩
def jn149 : Nat → Option Jn := fun _ => none
def ex149 : Nat → Option Nm := fun i => if i = 0 then some nx149_0 else none
def rg149 : Nat → Option Nm := fun i => if i = 6 then some nr149_6 else none
theorem p149 : plansOk tr149 (Tryz.f149.body.getD .skip) = true := by kernel_rfl
def T149 (N : Nat) : Tab := { tr := tr149, lp := lp149, ex := ex149, rg := rg149, jn := jn149, fuel := N }
theorem T149_pins (N : Nat) : (T149 N).pins = false := rfl
theorem tb149 (N : Nat) : TbOk Tryz.prog (T149 N) := tb_none fun _ => rfl
theorem T149_tr (N : Nat) (i : Nat) : (T149 N).tr i = tr149 i := rfl
theorem T149_lp (N : Nat) (i : Nat) : (T149 N).lp i = lp149 i := rfl
theorem T149_ex (N : Nat) (i : Nat) : (T149 N).ex i = ex149 i := rfl
theorem T149_rg (N : Nat) (i : Nat) : (T149 N).rg i = rg149 i := rfl
theorem T149_jn (N : Nat) (i : Nat) : (T149 N).jn i = jn149 i := rfl
theorem T149_fuel (N : Nat) : (T149 N).fuel = N := rfl
noncomputable def c149_4 : Code := cut [true, true, true, false, true, true, true] (Tryz.f149.body.getD .skip)
theorem c149_4_at {N : Nat} {Q : X → St → Option (Vals [i108, i4])} {e : List LV} {h : List Blk} : runT tt Γ149 (T149 N) c149_4 Q ⟨e, h⟩ = runT tt Γ149 (T149 N) (cut [true, true, true, false, true, true, true] (Tryz.f149.body.getD .skip)) Q ⟨e, h⟩ := rfl
theorem r149_l4 (N : Nat) (v3 : List (Val (.int .i64))) (v4 : Int) (v6 : Int) (v7 : Bool) (v8 : Int) (v9 : Bool) {k0 : (List (Val (.int .i64))) → Option (Vals [i108, i4])} {Q : X → St → Option (Vals [i108, i4])} {c : Code} (hc : c = c149_4) (hret : ∀ st, Q .ret st = retS tt true [i108, i4] [.cell 6 108, .tmp 7] st) (h0 : ∀ (v11 : List (Val (.int .i64))), Q (.exit 0) ⟨[u, u, u, u, u, u, .one (.ptr 0 0 0), u, u, .one (.ptr 1 0 0), u, u, u, u, u, u, u, u, u, u, u, u, u, u, u, u, u, u, u, u, u, u, u, u, u, u, u, u, u, u, u, u], [.box [.nils, .int .i64 v6, .bool v7], .box [.own 2, .int .i64 v8, .bool v9], .row 3 (.int .i64) v11 true true 0]⟩ = k0 v11) : ∀ (n : Nat) (v5 : Int) (v10 : List (Val (.int .i64))), loopR (runT tt Γ149 (T149 N) c) false nl149_4 Q n ⟨[.one (.sl 3 (.int .i64) v3 3), u, u, u, u, u, .one (.ptr 0 0 0), u, .one (.int .i64 v4), .one (.ptr 1 0 0), .one (.int .i64 v5), u, u, u, u, u, u, u, u, u, u, u, u, u, u, u, u, u, u, u, u, u, u, u, u, u, u, u, u, u, u, u], [.box [.nils, .int .i64 v6, .bool v7], .box [.own 2, .int .i64 v8, .bool v9], .row 3 (.int .i64) v10 true true 0]⟩ = m149_l4 N v3 v4 v6 v7 v8 v9 k0 n v5 v10 := by
  subst hc; intro n; induction n with
  | zero => intros; rfl
  | succ n ih =>
    intro v5 v10
    rw [loop_succ, c149_4_at, m149_l4]; unfold Tryz.f149
    simp (maxSteps := 10000000) -implicitDefEqProofs [T149_tr, tr149, T149_lp, lp149, T149_ex, ex149, T149_rg, rg149, T149_jn, jn149, T149_fuel, T149_pins, nl149_4_fix, nl149_4_keep, nl149_4_zero, nx149_0_fix, nx149_0_keep, nx149_0_zero, nr149_6_fix, nr149_6_keep, nr149_6_zero, Γ149_193, Γ149_231, g193, g231, hret, h0, ih]
theorem run149 (N : Nat) (v0 : List (Val (.int .i64))) (v1 : Int) (v2 : Bool) : runT tt Γ149 (T149 N) (Tryz.f149.body.getD .skip) (retR tt true [i108, i4] [.cell 6 108, .tmp 7]) (entryP [i25, i3, i4] 42 (v0, v1, v2, ())) = m149 N v0 v1 v2 := by
  unfold Tryz.f149
  simp (maxSteps := 10000000) -implicitDefEqProofs [T149_tr, tr149, T149_lp, lp149, T149_ex, ex149, T149_rg, rg149, T149_jn, jn149, T149_fuel, T149_pins, nl149_4_fix, nl149_4_keep, nl149_4_zero, nx149_0_fix, nx149_0_keep, nx149_0_zero, nr149_6_fix, nr149_6_keep, nr149_6_zero, Γ149_193, Γ149_231, g193, g231]
  rewrite [r149_l4 (k0 := (fun (v12 : List (Val (.int .i64))) => bif (!((isAtom (v12, (IntKind.i64.wrap (v1.tdiv (max (1 : Int) ((gcdL v0 v1) : Int)))), v2)) : Bool)) then (some ((([] : List (Val (.int .i64))), (0 : Int), false), false, ())) else (some ((v12, (IntKind.i64.wrap (v1.tdiv (max (1 : Int) ((gcdL v0 v1) : Int)))), v2), true, ())))) N _ _ _ _ _ _ ?_ ?_ ?_]
  · rewrite [m149]; first | rfl | simp (maxSteps := 10000000) -implicitDefEqProofs []
  · rfl
  · intro; simp only [seqR_ret, blockR_ret, retR_ret, retX_ret]
  · intro v12; simp (maxSteps := 10000000) -implicitDefEqProofs [T149_tr, tr149, T149_lp, lp149, T149_ex, ex149, T149_rg, rg149, T149_jn, jn149, T149_fuel, T149_pins, nl149_4_fix, nl149_4_keep, nl149_4_zero, nx149_0_fix, nx149_0_keep, nx149_0_zero, nr149_6_fix, nr149_6_keep, nr149_6_zero, Γ149_193, Γ149_231, g193, g231]
noncomputable def m207_l6 (N : Nat) (v3 : Int) (v4 : List (Val (.int .i64))) (v5 : Int) (v7 : Int) (v8 : Bool) (v9 : Int) (v10 : Bool) (k0 : (List (Val (.int .i64))) → Option (Vals [i108, i4])) : Nat → Int → (List (Val (.int .i64))) → Option (Vals [i108, i4])
  | 0, _, _ => none
  | n + 1, v6, v11 => bif (decide (v6 < v5)) then (chk (0 ≤ v6 ∧ v6 < (v4.length : Int)) (chk (v3 ≠ 0) (chk (0 ≤ v6 ∧ v6 < (v11.length : Int)) (chk (v6.toNat < v11.length) (m207_l6 N v3 v4 v5 v7 v8 v9 v10 k0 n (IntKind.i64.wrap (v6 + (1 : Int))) (v11.set v6.toNat (IntKind.i64.wrap (((v4.getD v6.toNat (dflt (.int .i64))) : Int).tdiv v3)))))))) else (k0 v11)
noncomputable def m207 (N : Nat) (v0 : List (Val (.int .i64))) (v1 : Int) (v2 : Bool) : Option (Vals [i108, i4]) := chk (gcdM_pre v0) (chk (gcdI_pre ((gcdM v0) : Int) v1) (bif (decide (((gcdI ((gcdM v0) : Int) v1) : Int) = (0 : Int))) then (chk ((1 : Int) ≠ 0) (chk (0 ≤ (v0.length : Int) ∧ (v0.length : Int) ≤ (v0.length : Int) ∧ (v0.length : Int) ≤ 1048576) (m207_l6 N (1 : Int) v0 (v0.length : Int) (0 : Int) false (IntKind.i64.wrap (v1.tdiv (1 : Int))) v2 (fun (v13 : List (Val (.int .i64))) => bif (!((isAtom (v13, (IntKind.i64.wrap (v1.tdiv (1 : Int))), v2)) : Bool)) then (some ((([] : List (Val (.int .i64))), (0 : Int), false), false, ())) else (some ((v13, (IntKind.i64.wrap (v1.tdiv (1 : Int))), v2), true, ()))) N (0 : Int) (List.replicate (v0.length : Int).toNat (dflt (.int .i64)))))) else (chk (((gcdI ((gcdM v0) : Int) v1) : Int) ≠ 0) (chk (0 ≤ (v0.length : Int) ∧ (v0.length : Int) ≤ (v0.length : Int) ∧ (v0.length : Int) ≤ 1048576) (m207_l6 N ((gcdI ((gcdM v0) : Int) v1) : Int) v0 (v0.length : Int) (0 : Int) false (IntKind.i64.wrap (v1.tdiv ((gcdI ((gcdM v0) : Int) v1) : Int))) v2 (fun (v4 : List (Val (.int .i64))) => bif (!((isAtom (v4, (IntKind.i64.wrap (v1.tdiv ((gcdI ((gcdM v0) : Int) v1) : Int))), v2)) : Bool)) then (some ((([] : List (Val (.int .i64))), (0 : Int), false), false, ())) else (some ((v4, (IntKind.i64.wrap (v1.tdiv ((gcdI ((gcdM v0) : Int) v1) : Int))), v2), true, ()))) N (0 : Int) (List.replicate (v0.length : Int).toNat (dflt (.int .i64))))))))
def Γ207 : Gam := [(279, g279), (280, g280), (282, g282)]
theorem Γ207_279 : Gam.get Γ207 279 = some g279 := rfl
theorem Γ207_280 : Gam.get Γ207 280 = some g280 := rfl
theorem Γ207_282 : Gam.get Γ207 282 = some g282 := rfl
def nl207_6 : Nm := ⟨[false, false, false, false, false, false, true, false, true, true, false, false, false, false, false, false, false, false, false, false, false, false, false, false, false, false, true, true, true], [], false⟩
theorem nl207_6_zero : nl207_6.zero = false := rfl
theorem nl207_6_fix : nl207_6.fix = [] := rfl
theorem nl207_6_keep : nl207_6.keep = [false, false, false, false, false, false, true, false, true, true, false, false, false, false, false, false, false, false, false, false, false, false, false, false, false, false, true, true, true] := rfl
def nx207_0 : Nm := ⟨[false, false, false, false, false, false, true, false, false, true], [], false⟩
theorem nx207_0_zero : nx207_0.zero = false := rfl
theorem nx207_0_fix : nx207_0.fix = [] := rfl
theorem nx207_0_keep : nx207_0.keep = [false, false, false, false, false, false, true, false, false, true] := rfl
def nr207_4 : Nm := ⟨[true, false, false, false, false, false, true, false, true, true], [], false⟩
theorem nr207_4_zero : nr207_4.zero = false := rfl
theorem nr207_4_fix : nr207_4.fix = [] := rfl
theorem nr207_4_keep : nr207_4.keep = [true, false, false, false, false, false, true, false, true, true] := rfl
def tr207 : Nat → Tree := fun i => if i = 4 then .first 0 (.first 3 (.first 4 (.first 5 (.first 6 (.grow 1 (.alt 2 (.first 7 (.alt 8 (.alt 9 .done .stop) .stop)) (.alt 8 (.alt 2 (.quiet 7 (.alt 9 .done .stop)) .stop) .stop))))))) else if i = 8 then .quiet 0 (.quiet 1 (.quiet 2 (.quiet 3 (.quiet 4 (.quiet 5 (.quiet 6 (.alt 7 .done .stop))))))) else .done
def lp207 : Nat → Nm := fun i => if i = 6 then nl207_6 else ⟨[], [], false⟩
def jn207 : Nat → Option Jn := fun _ => none
def ex207 : Nat → Option Nm := fun i => if i = 0 then some nx207_0 else none
def rg207 : Nat → Option Nm := fun i => if i = 4 then some nr207_4 else none
theorem p207 : plansOk tr207 (Tryz.f207.body.getD .skip) = true := by kernel_rfl
def T207 (N : Nat) : Tab := { tr := tr207, lp := lp207, ex := ex207, rg := rg207, jn := jn207, fuel := N }
theorem T207_pins (N : Nat) : (T207 N).pins = false := rfl
theorem tb207 (N : Nat) : TbOk Tryz.prog (T207 N) := tb_none fun _ => rfl
theorem T207_tr (N : Nat) (i : Nat) : (T207 N).tr i = tr207 i := rfl
theorem T207_lp (N : Nat) (i : Nat) : (T207 N).lp i = lp207 i := rfl
theorem T207_ex (N : Nat) (i : Nat) : (T207 N).ex i = ex207 i := rfl
theorem T207_rg (N : Nat) (i : Nat) : (T207 N).rg i = rg207 i := rfl
theorem T207_jn (N : Nat) (i : Nat) : (T207 N).jn i = jn207 i := rfl
theorem T207_fuel (N : Nat) : (T207 N).fuel = N := rfl
noncomputable def c207_6 : Code := cut [true, true, true, true, false, true, true, true] (Tryz.f207.body.getD .skip)
theorem c207_6_at {N : Nat} {Q : X → St → Option (Vals [i108, i4])} {e : List LV} {h : List Blk} : runT tt Γ207 (T207 N) c207_6 Q ⟨e, h⟩ = runT tt Γ207 (T207 N) (cut [true, true, true, true, false, true, true, true] (Tryz.f207.body.getD .skip)) Q ⟨e, h⟩ := rfl
theorem r207_l6 (N : Nat) (v3 : Int) (v4 : List (Val (.int .i64))) (v5 : Int) (v7 : Int) (v8 : Bool) (v9 : Int) (v10 : Bool) {k0 : (List (Val (.int .i64))) → Option (Vals [i108, i4])} {Q : X → St → Option (Vals [i108, i4])} {c : Code} (hc : c = c207_6) (hret : ∀ st, Q .ret st = retS tt true [i108, i4] [.cell 6 108, .tmp 7] st) (h0 : ∀ (v12 : List (Val (.int .i64))), Q (.exit 0) ⟨[u, u, u, u, u, u, .one (.ptr 0 0 0), u, u, .one (.ptr 1 0 0), u, u, u, u, u, u, u, u, u, u, u, u, u, u, u, u, u, u, u, u, u, u, u, u, u, u, u, u, u, u, u, u, u, u, u, u], [.box [.nils, .int .i64 v7, .bool v8], .box [.own 2, .int .i64 v9, .bool v10], .row 3 (.int .i64) v12 true true 0]⟩ = k0 v12) : ∀ (n : Nat) (v6 : Int) (v11 : List (Val (.int .i64))), loopR (runT tt Γ207 (T207 N) c) false nl207_6 Q n ⟨[u, u, u, u, u, u, .one (.ptr 0 0 0), u, .one (.int .i64 v3), .one (.ptr 1 0 0), u, u, u, u, u, u, u, u, u, u, u, u, u, u, u, u, .one (.sl 3 (.int .i64) v4 3), .one (.int .i64 v5), .one (.int .i64 v6), u, u, u, u, u, u, u, u, u, u, u, u, u, u, u, u, u], [.box [.nils, .int .i64 v7, .bool v8], .box [.own 2, .int .i64 v9, .bool v10], .row 3 (.int .i64) v11 true true 0]⟩ = m207_l6 N v3 v4 v5 v7 v8 v9 v10 k0 n v6 v11 := by
  subst hc; intro n; induction n with
  | zero => intros; rfl
  | succ n ih =>
    intro v6 v11
    rw [loop_succ, c207_6_at, m207_l6]; unfold Tryz.f207
    simp (maxSteps := 10000000) -implicitDefEqProofs [T207_tr, tr207, T207_lp, lp207, T207_ex, ex207, T207_rg, rg207, T207_jn, jn207, T207_fuel, T207_pins, nl207_6_fix, nl207_6_keep, nl207_6_zero, nx207_0_fix, nx207_0_keep, nx207_0_zero, nr207_4_fix, nr207_4_keep, nr207_4_zero, Γ207_279, Γ207_280, Γ207_282, g279, g280, g282, hret, h0, ih]
theorem run207 (N : Nat) (v0 : List (Val (.int .i64))) (v1 : Int) (v2 : Bool) : runT tt Γ207 (T207 N) (Tryz.f207.body.getD .skip) (retR tt true [i108, i4] [.cell 6 108, .tmp 7]) (entryP [i25, i3, i4] 46 (v0, v1, v2, ())) = m207 N v0 v1 v2 := by
  unfold Tryz.f207
  simp (maxSteps := 10000000) -implicitDefEqProofs [T207_tr, tr207, T207_lp, lp207, T207_ex, ex207, T207_rg, rg207, T207_jn, jn207, T207_fuel, T207_pins, nl207_6_fix, nl207_6_keep, nl207_6_zero, nx207_0_fix, nx207_0_keep, nx207_0_zero, nr207_4_fix, nr207_4_keep, nr207_4_zero, Γ207_279, Γ207_280, Γ207_282, g279, g280, g282]
  rewrite [r207_l6 (k0 := (fun (v13 : List (Val (.int .i64))) => bif (!((isAtom (v13, (IntKind.i64.wrap (v1.tdiv (1 : Int))), v2)) : Bool)) then (some ((([] : List (Val (.int .i64))), (0 : Int), false), false, ())) else (some ((v13, (IntKind.i64.wrap (v1.tdiv (1 : Int))), v2), true, ())))) N _ _ _ _ _ _ _ ?_ ?_ ?_]
  rewrite [r207_l6 (k0 := (fun (v4 : List (Val (.int .i64))) => bif (!((isAtom (v4, (IntKind.i64.wrap (v1.tdiv ((gcdI ((gcdM v0) : Int) v1) : Int))), v2)) : Bool)) then (some ((([] : List (Val (.int .i64))), (0 : Int), false), false, ())) else (some ((v4, (IntKind.i64.wrap (v1.tdiv ((gcdI ((gcdM v0) : Int) v1) : Int))), v2), true, ())))) N _ _ _ _ _ _ _ ?_ ?_ ?_]
  · rewrite [m207]; first | rfl | simp (maxSteps := 10000000) -implicitDefEqProofs []
  · rfl
  · intro; simp only [seqR_ret, blockR_ret, retR_ret, retX_ret]
  · intro v4; simp (maxSteps := 10000000) -implicitDefEqProofs [T207_tr, tr207, T207_lp, lp207, T207_ex, ex207, T207_rg, rg207, T207_jn, jn207, T207_fuel, T207_pins, nl207_6_fix, nl207_6_keep, nl207_6_zero, nx207_0_fix, nx207_0_keep, nx207_0_zero, nr207_4_fix, nr207_4_keep, nr207_4_zero, Γ207_279, Γ207_280, Γ207_282, g279, g280, g282]
  · rfl
  · intro; simp only [seqR_ret, blockR_ret, retR_ret, retX_ret]
  · intro v13; simp (maxSteps := 10000000) -implicitDefEqProofs [T207_tr, tr207, T207_lp, lp207, T207_ex, ex207, T207_rg, rg207, T207_jn, jn207, T207_fuel, T207_pins, nl207_6_fix, nl207_6_keep, nl207_6_zero, nx207_0_fix, nx207_0_keep, nx207_0_zero, nr207_4_fix, nr207_4_keep, nr207_4_zero, Γ207_279, Γ207_280, Γ207_282, g279, g280, g282]
def g149 : G := { ps := [i25, i3, i4], rs := [i108, i4], dp := true, pre := fun x => mkAtom_pre x.1 x.2.1 x.2.2.1, fn := fun x => ((mkAtom x.1 x.2.1 x.2.2.1).1, (mkAtom x.1 x.2.1 x.2.2.1).2, ()) }
def g207 : G := { ps := [i25, i3, i4], rs := [i108, i4], dp := true, pre := fun x => mkAtom_pre x.1 x.2.1 x.2.2.1, fn := fun x => ((mkAtom x.1 x.2.1 x.2.2.1).1, (mkAtom x.1 x.2.1 x.2.2.1).2, ()) }
theorem t149 (N : Nat) (co : List (Val (.int .i64))) (g : Nat) (hg1 : (g : Int) ≠ 0) (a : Int) (b : Bool) (c : Int) (s : Bool) (K : List (Val (.int .i64)) → Option (Vals [i108, i4])) (hl : co.length ≤ 1048576) (hx : ∀ x ∈ co, inI x) (n : Nat) (hn : co.length < n) :
    m149_l4 N co (g : Int) a b c s K n 0 [] = K (List.map (α := Int) (fun x => x.tdiv (g : Int)) co) := by
  refine (loop_fold (F := fun n i s' => m149_l4 N co (g : Int) a b c s K n i s') (step := fun _ x (s : List (Val (.int .i64))) K => chk (s.length + [IntKind.i64.wrap (Int.tdiv x (g : Int))].length ≤ 1048576) (K (s ++ [IntKind.i64.wrap (Int.tdiv x (g : Int))]))) (k := K) hl (fun n i s' hi => ?_) (fun n i s' hi => ?_) n _ hn).trans ((app_fold (f := fun x => IntKind.i64.wrap (Int.tdiv x (g : Int))) (k := K) co 0 [] (by simpa using hl)).trans ?_)
  · rw [m149_l4, bif_dec (by omega), chk_pos (by omega), chk_pos hg1, getD_atI hi]
  · rw [m149_l4, bif_decN (by omega)]
  · have e : List.map (fun x => IntKind.i64.wrap (Int.tdiv x (g : Int))) co = List.map (α := Int) (fun x => x.tdiv (g : Int)) co := List.map_congr_left fun x hx' => tdiv_in (hx x hx')
    rw [List.nil_append, e]
theorem e149 (co : List (Val (.int .i64))) (k : Int) (s : Bool) (h : mkAtom_pre co k s) : ∃ N, m149 N co k s = some ((mkAtom co k s).1, (mkAtom co k s).2, ()) := ⟨co.length + 1, by
  obtain ⟨hl, hk, hx⟩ := h
  have hg : max (1 : Int) (gcdL co k) = ((max 1 (gL k.natAbs co) : Nat) : Int) := by unfold gcdL; omega
  rw [m149, chk_pos (show gcdL_pre co k from ⟨hl, hk, hx⟩), hg, chk_pos (by omega), tdiv_in hk]
  generalize hG : max 1 (gL k.natAbs co) = g
  have hg1 : (g : Int) ≠ 0 := by omega
  rw [t149 _ co g hg1 0 false _ s _ hl hx _ (Nat.lt_succ_self _)]
  exact mkAtom_eq co k s g hG.symm⟩
theorem s149 : Sound Tryz.prog 149 g149 := sound_run (tt := tt) (Γ := Γ149) hT (ok_cons s193 (ok_cons s231 ok_nil)) hm (fn := Tryz.f149) Tryz.func149 (c := Tryz.f149.body.getD .skip) (by kernel_rfl) (by kernel_rfl) fun x hx => by
  obtain ⟨N, h⟩ := e149 x.1 x.2.1 x.2.2.1 hx
  exact ⟨T149 N, p149, noSem_ok _, tb149 N, (run149 N x.1 x.2.1 x.2.2.1).trans h⟩
theorem t207 (N : Nat) (co : List (Val (.int .i64))) (g : Nat) (hg1 : (g : Int) ≠ 0) (a : Int) (b : Bool) (c : Int) (s : Bool) (K : List (Val (.int .i64)) → Option (Vals [i108, i4])) (hl : co.length ≤ 1048576) (hx : ∀ x ∈ co, inI x) (n : Nat) (hn : co.length < n) :
    m207_l6 N (g : Int) co co.length a b c s K n 0 (List.replicate co.length (dflt (.int .i64))) = K (List.map (α := Int) (fun x => x.tdiv (g : Int)) co) := by
  have := copy_loop (xs := List.map (α := Int) (fun x => x.tdiv (g : Int)) co) (F := fun n i s' => m207_l6 N (g : Int) co co.length a b c s K n i s') (k := K) (dflt (.int .i64)) (by simpa using hl) (fun n i s' hi hs => ?_) (fun n i s' hi => ?_) n (by simpa using hn)
  · simpa using this
  · have hi : i < co.length := by simpa using hi
    have hs : s'.length = co.length := by simpa using hs
    rw [m207_l6, bif_dec (by omega), chk_pos (by omega), chk_pos hg1, chk_pos (by omega), chk_pos (by omega), getD_atI hi, tdiv_in (hx _ (List.getElem_mem hi))]
    simp
  · have hi : co.length ≤ i := by simpa using hi
    rw [m207_l6, bif_decN (by omega)]
theorem e207 (co : List (Val (.int .i64))) (k : Int) (s : Bool) (h : mkAtom_pre co k s) : ∃ N, m207 N co k s = some ((mkAtom co k s).1, (mkAtom co k s).2, ()) := ⟨co.length + 1, by
  obtain ⟨hl, hk, hx⟩ := h
  have eg : gcdI (gcdM co) k = ((gL k.natAbs co : Nat) : Int) := by
    unfold gcdI gcdM
    rw [Int.natAbs_natCast, ← gL_gcd, Nat.gcd_zero_left]
  rw [m207, chk_pos (show gcdM_pre co from ⟨hl, hx⟩), chk_pos (show gcdI_pre (gcdM co) k from ⟨gL_in co 0 (by omega) hx, hk⟩), eg, Int.toNat_natCast]
  by_cases h0 : gL k.natAbs co = 0
  · rw [bif_dec (by omega), chk_pos (by decide), chk_pos (chk_len hl)]
    have e1 : ((1 : Nat) : Int) = 1 := rfl
    have := tdiv_in (g := 1) hk
    rw [e1] at this
    rw [this]
    have t := t207 (co.length + 1) co 1 (by decide) 0 false (k.tdiv 1) s (fun v => bif !isAtom (v, k.tdiv 1, s) then some ((([] : List (Val (.int .i64))), (0 : Int), false), false, ()) else some ((v, k.tdiv 1, s), true, ())) hl hx _ (Nat.lt_succ_self _)
    rw [e1] at t
    rw [t]
    exact mkAtom_eq co k s 1 (by omega)
  · rw [bif_decN (by omega), chk_pos (by omega), chk_pos (chk_len hl), tdiv_in hk]
    rw [t207 (co.length + 1) co (gL k.natAbs co) (by omega) 0 false _ s _ hl hx _ (Nat.lt_succ_self _)]
    exact mkAtom_eq co k s _ (by omega)⟩
theorem s207 : Sound Tryz.prog 207 g207 := sound_run (tt := tt) (Γ := Γ207) hT (ok_cons s279 (ok_cons s280 (ok_cons s282 ok_nil))) hm (fn := Tryz.f207) Tryz.func207 (c := Tryz.f207.body.getD .skip) (by kernel_rfl) (by kernel_rfl) fun x hx => by
  obtain ⟨N, h⟩ := e207 x.1 x.2.1 x.2.2.1 hx
  exact ⟨T207 N, p207, noSem_ok _, tb207 N, (run207 N x.1 x.2.1 x.2.2.1).trans h⟩
theorem atom_in {a : Val Y108} (h : isAtom a = true) : (List.length (α := Int) a.1 ≤ 4) ∧ inI a.2.1 ∧ ∀ x ∈ (a.1 : List Int), -400000000 ≤ x ∧ x ≤ 400000000 := by
  unfold isAtom at h
  simp only [Bool.and_eq_true, decide_eq_true_eq] at h
  obtain ⟨⟨⟨h1, h2⟩, h3⟩, _⟩ := h
  exact ⟨h1, numIn h2, fun x hx => of_decide_eq_true (List.all_eq_true.1 h3 x hx)⟩
theorem cell_in {c : Val Y33} (h : isCell c = true) : (0 ≤ (c.1 : Int) ∧ (c.1 : Int) ≤ 4) ∧ List.length (α := Val Y108) c.2 ≤ 16 ∧ ∀ a ∈ (c.2 : List (Val Y108)), isAtom a = true ∧ (List.length (α := Val (.int .i64)) a.1 : Int) = (c.1 : Int) := by
  unfold isCell at h
  simp only [Bool.and_eq_true, decide_eq_true_eq] at h
  obtain ⟨⟨h1, h2⟩, h3⟩ := h
  refine ⟨h1, by omega, fun a ha => ?_⟩
  have := List.all_eq_true.1 h3 a ha
  simp only [Bool.and_eq_true, decide_eq_true_eq] at this
  exact this
end Go.T
