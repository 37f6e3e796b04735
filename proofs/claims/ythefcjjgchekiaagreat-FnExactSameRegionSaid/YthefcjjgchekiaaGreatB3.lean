/- Normal cells. -/
import Derived.Test.YthefcjjgchekiaaGreatB2
set_option linter.unusedSimpArgs false
set_option linter.unusedVariables false
namespace Go.T
open Go Go.Proofs
set_option maxHeartbeats 4000000
set_option maxRecDepth 100000
noncomputable def m219_l3 (N : Nat) (v1 : List (Val (.slice 108 Y108))) (v3 : List (Val (.slice 108 Y108))) (v4 : Int) (k0 : Int → Option (Vals [i31])) : Nat → Int → Int → Option (Vals [i31])
  | 0, _, _ => none
  | n + 1, v2, v5 => bif (decide (v5 < v4)) then (chk (0 ≤ v5 ∧ v5 < (v3.length : Int)) (bif (decide ((IntKind.i64.wrap (v2 + (((v3.getD v5.toNat (dflt (.slice 108 Y108))) : List (Val Y108)).length : Int))) < (0 : Int))) then (none) else (m219_l3 N v1 v3 v4 k0 n (IntKind.i64.wrap (v2 + (((v3.getD v5.toNat (dflt (.slice 108 Y108))) : List (Val Y108)).length : Int))) (IntKind.i64.wrap (v5 + (1 : Int)))))) else (k0 v2)
noncomputable def m219_l11 (N : Nat) (v8 : List (Val (.slice 108 Y108))) (v9 : Int) (k2 : (List (Val Y108)) → Option (Vals [i31])) : Nat → Int → (List (Val Y108)) → Option (Vals [i31])
  | 0, _, _ => none
  | n + 1, v10, v11 => bif (decide (v10 < v9)) then (chk (0 ≤ v10 ∧ v10 < (v8.length : Int)) (chk (v11.length + ((v8.getD v10.toNat (dflt (.slice 108 Y108))) : List (Val Y108)).length ≤ 1048576) (m219_l11 N v8 v9 k2 n (IntKind.i64.wrap (v10 + (1 : Int))) (v11 ++ ((v8.getD v10.toNat (dflt (.slice 108 Y108))) : List (Val Y108)))))) else (k2 v11)
noncomputable def m219 (N : Nat) (v0 : List (Val (.slice 108 Y108))) : Option (Vals [i31]) := m219_l3 N v0 v0 (v0.length : Int) (fun (v7 : Int) => chk (0 ≤ v7 ∧ v7 ≤ 1048576) (m219_l11 N v0 (v0.length : Int) (fun (v13 : List (Val Y108)) => some (v13, ())) N (0 : Int) ([] : List (Val Y108)))) N (0 : Int) (0 : Int)
def Γ219 : Gam := []
def nl219_3 : Nm := ⟨[true, false, false, true, false, false, false, false, false, true, true, true], [], false⟩
theorem nl219_3_zero : nl219_3.zero = false := rfl
theorem nl219_3_fix : nl219_3.fix = [] := rfl
theorem nl219_3_keep : nl219_3.keep = [true, false, false, true, false, false, false, false, false, true, true, true] := rfl
def nl219_11 : Nm := ⟨[false, false, false, false, false, false, true, false, false, false, false, false, false, false, false, false, false, false, false, false, false, false, false, false, false, true, true, true], [.und 6 0 108 Y108], false⟩
theorem nl219_11_zero : nl219_11.zero = false := rfl
theorem nl219_11_fix : nl219_11.fix = [.und 6 0 108 Y108] := rfl
theorem nl219_11_keep : nl219_11.keep = [false, false, false, false, false, false, true, false, false, false, false, false, false, false, false, false, false, false, false, false, false, false, false, false, false, true, true, true] := rfl
def nx219_0 : Nm := ⟨[true, false, false, true], [], false⟩
theorem nx219_0_zero : nx219_0.zero = false := rfl
theorem nx219_0_fix : nx219_0.fix = [] := rfl
theorem nx219_0_keep : nx219_0.keep = [true, false, false, true] := rfl
def nx219_2 : Nm := ⟨[false, false, false, false, false, false, true], [], false⟩
theorem nx219_2_zero : nx219_2.zero = false := rfl
theorem nx219_2_fix : nx219_2.fix = [] := rfl
theorem nx219_2_keep : nx219_2.keep = [false, false, false, false, false, false, true] := rfl
def tr219 : Nat → Tree := fun _ => .done
def lp219 : Nat → Nm := fun i => if i = 3 then nl219_3 else if i = 11 then nl219_11 else ⟨[], [], false⟩
noncomputable def sem219 : Sem := ownSem [(284, .gr 108 Y108)]
def jn219 : Nat → Option Jn := fun _ => none
def ex219 : Nat → Option Nm := fun i => if i = 0 then some nx219_0 else if i = 2 then some nx219_2 else none
def rg219 : Nat → Option Nm := fun _ => none
theorem p219 : plansOk tr219 (Tryz.f219.body.getD .skip) = true := by kernel_rfl
noncomputable def T219 (N : Nat) : Tab := { tr := tr219, lp := lp219, ex := ex219, rg := rg219, jn := jn219, fuel := N, sem := sem219 }
theorem T219_pins (N : Nat) : (T219 N).pins = false := rfl
theorem tb219 (N : Nat) : TbOk Tryz.prog (T219 N) := tb_none fun _ => rfl
theorem T219_sem (N : Nat) : (T219 N).sem = sem219 := rfl
theorem T219_tr (N : Nat) (i : Nat) : (T219 N).tr i = tr219 i := rfl
theorem T219_lp (N : Nat) (i : Nat) : (T219 N).lp i = lp219 i := rfl
theorem T219_ex (N : Nat) (i : Nat) : (T219 N).ex i = ex219 i := rfl
theorem T219_rg (N : Nat) (i : Nat) : (T219 N).rg i = rg219 i := rfl
theorem T219_jn (N : Nat) (i : Nat) : (T219 N).jn i = jn219 i := rfl
theorem T219_fuel (N : Nat) : (T219 N).fuel = N := rfl
noncomputable def c219_3 : Code := cut [true, true, false, true, true, true] (Tryz.f219.body.getD .skip)
theorem c219_3_at {N : Nat} {Q : X → St → Option (Vals [i31])} {e : List LV} {h : List Blk} : runT tt Γ219 (T219 N) c219_3 Q ⟨e, h⟩ = runT tt Γ219 (T219 N) (cut [true, true, false, true, true, true] (Tryz.f219.body.getD .skip)) Q ⟨e, h⟩ := rfl
theorem r219_l3 (N : Nat) (v1 : List (Val (.slice 108 Y108))) (v3 : List (Val (.slice 108 Y108))) (v4 : Int) {k0 : Int → Option (Vals [i31])} {Q : X → St → Option (Vals [i31])} {c : Code} (hc : c = c219_3) (hret : ∀ st, Q .ret st = retS tt false [i31] [.tmp 2] st) (h0 : ∀ (v6 : Int), Q (.exit 0) ⟨[.one (.sl 31 (.slice 108 Y108) v1 0), u, u, .one (.int .i64 v6), u, u, u, u, u, u, u, u, u, u, u, u, u, u, u, u, u, u, u, u, u, u, u, u, u, u, u, u, u, u, u, u], []⟩ = k0 v6) : ∀ (n : Nat) (v2 : Int) (v5 : Int), loopR (runT tt Γ219 (T219 N) c) false nl219_3 Q n ⟨[.one (.sl 31 (.slice 108 Y108) v1 0), u, u, .one (.int .i64 v2), u, u, u, u, u, .one (.sl 31 (.slice 108 Y108) v3 0), .one (.int .i64 v4), .one (.int .i64 v5), u, u, u, u, u, u, u, u, u, u, u, u, u, u, u, u, u, u, u, u, u, u, u, u], []⟩ = m219_l3 N v1 v3 v4 k0 n v2 v5 := by
  subst hc; intro n; induction n with
  | zero => intros; rfl
  | succ n ih =>
    intro v2 v5
    rw [loop_succ, c219_3_at, m219_l3]; unfold Tryz.f219
    simp (maxSteps := 10000000) -implicitDefEqProofs [T219_tr, tr219, T219_lp, lp219, T219_ex, ex219, T219_rg, rg219, T219_jn, jn219, T219_fuel, T219_pins, T219_sem, sem219, semR', nl219_3_fix, nl219_3_keep, nl219_3_zero, nl219_11_fix, nl219_11_keep, nl219_11_zero, nx219_0_fix, nx219_0_keep, nx219_0_zero, nx219_2_fix, nx219_2_keep, nx219_2_zero, hret, h0, ih]
noncomputable def c219_11 : Code := cut [true, true, true, true, false, true, true, true] (Tryz.f219.body.getD .skip)
theorem c219_11_at {N : Nat} {Q : X → St → Option (Vals [i31])} {e : List LV} {h : List Blk} : runT tt Γ219 (T219 N) c219_11 Q ⟨e, h⟩ = runT tt Γ219 (T219 N) (cut [true, true, true, true, false, true, true, true] (Tryz.f219.body.getD .skip)) Q ⟨e, h⟩ := rfl
theorem r219_l11 (N : Nat) (v8 : List (Val (.slice 108 Y108))) (v9 : Int) {k2 : (List (Val Y108)) → Option (Vals [i31])} {Q : X → St → Option (Vals [i31])} {c : Code} (hc : c = c219_11) (hret : ∀ st, Q .ret st = retS tt false [i31] [.tmp 2] st) (h2 : ∀ (v12 : List (Val Y108)), Q (.exit 2) ⟨[u, u, u, u, u, u, .one (.own 0), u, u, u, u, u, u, u, u, u, u, u, u, u, u, u, u, u, u, u, u, u, u, u, u, u, u, u, u, u], [.row 108 Y108 v12 false true 1]⟩ = k2 v12) : ∀ (n : Nat) (v10 : Int) (v11 : List (Val Y108)), loopR (runT tt Γ219 (T219 N) c) false nl219_11 Q n ⟨[u, u, u, u, u, u, .one (.own 0), u, u, u, u, u, u, u, u, u, u, u, u, u, u, u, u, u, u, .one (.sl 31 (.slice 108 Y108) v8 1), .one (.int .i64 v9), .one (.int .i64 v10), u, u, u, u, u, u, u, u], [.row 108 Y108 v11 false true 1]⟩ = m219_l11 N v8 v9 k2 n v10 v11 := by
  subst hc; intro n; induction n with
  | zero => intros; rfl
  | succ n ih =>
    intro v10 v11
    rw [loop_succ, c219_11_at, m219_l11]; unfold Tryz.f219
    simp (maxSteps := 10000000) -implicitDefEqProofs [T219_tr, tr219, T219_lp, lp219, T219_ex, ex219, T219_rg, rg219, T219_jn, jn219, T219_fuel, T219_pins, T219_sem, sem219, semR', nl219_3_fix, nl219_3_keep, nl219_3_zero, nl219_11_fix, nl219_11_keep, nl219_11_zero, nx219_0_fix, nx219_0_keep, nx219_0_zero, nx219_2_fix, nx219_2_keep, nx219_2_zero, hret, h2, ih]
theorem run219 (N : Nat) (v0 : List (Val (.slice 108 Y108))) : runT tt Γ219 (T219 N) (Tryz.f219.body.getD .skip) (retR tt false [i31] [.tmp 2]) (entryP [i249] 36 (v0, ())) = m219 N v0 := by
  unfold Tryz.f219
  simp (maxSteps := 10000000) -implicitDefEqProofs [T219_tr, tr219, T219_lp, lp219, T219_ex, ex219, T219_rg, rg219, T219_jn, jn219, T219_fuel, T219_pins, T219_sem, sem219, semR', nl219_3_fix, nl219_3_keep, nl219_3_zero, nl219_11_fix, nl219_11_keep, nl219_11_zero, nx219_0_fix, nx219_0_keep, nx219_0_zero, nx219_2_fix, nx219_2_keep, nx219_2_zero]
  rewrite [r219_l3 (k0 := (fun (v7 : Int) => chk (0 ≤ v7 ∧ v7 ≤ 1048576) (m219_l11 N v0 (v0.length : Int) (fun (v13 : List (Val Y108)) => some (v13, ())) N (0 : Int) ([] : List (Val Y108))))) N _ _ _ ?_ ?_ ?_]
  · rewrite [m219]; first | rfl | simp (maxSteps := 10000000) -implicitDefEqProofs []
  · rfl
  · intro; simp only [seqR_ret, blockR_ret, retR_ret, retX_ret]
  · intro v7; simp (maxSteps := 10000000) -implicitDefEqProofs [T219_tr, tr219, T219_lp, lp219, T219_ex, ex219, T219_rg, rg219, T219_jn, jn219, T219_fuel, T219_pins, T219_sem, sem219, semR', nl219_3_fix, nl219_3_keep, nl219_3_zero, nl219_11_fix, nl219_11_keep, nl219_11_zero, nx219_0_fix, nx219_0_keep, nx219_0_zero, nx219_2_fix, nx219_2_keep, nx219_2_zero]
    rewrite [r219_l11 (k2 := (fun (v13 : List (Val Y108)) => some (v13, ()))) N _ _ ?_ ?_ ?_]
    · first | rfl | simp (maxSteps := 10000000) -implicitDefEqProofs []
    · rfl
    · intro; simp only [seqR_ret, blockR_ret, retR_ret, retX_ret]
    · intro v13; simp (maxSteps := 10000000) -implicitDefEqProofs [T219_tr, tr219, T219_lp, lp219, T219_ex, ex219, T219_rg, rg219, T219_jn, jn219, T219_fuel, T219_pins, T219_sem, sem219, semR', nl219_3_fix, nl219_3_keep, nl219_3_zero, nl219_11_fix, nl219_11_keep, nl219_11_zero, nx219_0_fix, nx219_0_keep, nx219_0_zero, nx219_2_fix, nx219_2_keep, nx219_2_zero]
noncomputable def m230_l3 (N : Nat) (v2 : Int) (v3 : List (Val Y108)) (v4 : Int) (v6 : Int) (k0 : (List (Val Y108)) → Option (Vals [i33])) : Nat → Int → (List (Val Y108)) → Option (Vals [i33])
  | 0, _, _ => none
  | n + 1, v5, v7 => bif (decide (v5 < v4)) then (chk (0 ≤ v5 ∧ v5 < (v3.length : Int)) (chk (hasVar_pre (v3.getD v5.toNat (dflt Y108))) (bif (!((hasVar (v3.getD v5.toNat (dflt Y108))) : Bool)) then (bif (decide ((0 : Int) < (((v3.getD v5.toNat (dflt Y108)).2).1 : Int))) then (chk (noneC_pre v2) (some ((((noneC v2).1 : Int), ((noneC v2).2 : List (Val Y108))), ()))) else (bif (decide ((((v3.getD v5.toNat (dflt Y108)).2).1 : Int) = (0 : Int))) then (bif (((v3.getD v5.toNat (dflt Y108)).2).2 : Bool) then (chk (noneC_pre v2) (some ((((noneC v2).1 : Int), ((noneC v2).2 : List (Val Y108))), ()))) else (m230_l3 N v2 v3 v4 v6 k0 n (IntKind.i64.wrap (v5 + (1 : Int))) v7)) else (m230_l3 N v2 v3 v4 v6 k0 n (IntKind.i64.wrap (v5 + (1 : Int))) v7))) else (chk (idA_pre (v3.getD v5.toNat (dflt Y108))) (chk (v7.length + ([(((idA (v3.getD v5.toNat (dflt Y108))).1 : List (Val (.int .i64))), (((idA (v3.getD v5.toNat (dflt Y108))).2).1 : Int), (((idA (v3.getD v5.toNat (dflt Y108))).2).2 : Bool))] : List (Val Y108)).length ≤ 1048576) (m230_l3 N v2 v3 v4 v6 k0 n (IntKind.i64.wrap (v5 + (1 : Int))) (v7 ++ ([(((idA (v3.getD v5.toNat (dflt Y108))).1 : List (Val (.int .i64))), (((idA (v3.getD v5.toNat (dflt Y108))).2).1 : Int), (((idA (v3.getD v5.toNat (dflt Y108))).2).2 : Bool))] : List (Val Y108))))))))) else (k0 v7)
noncomputable def m230_l13 (N : Nat) (v10 : Int) (v12 : List (Val (hd Y108))) (v13 : List (Val Y108)) (v14 : Int) (v15 : List (Val (hd Y108))) (v16 : Int) (k2 : (List (Val (hd Y108))) → Option (Vals [i33])) : Nat → Int → (List (Val (hd Y108))) → Option (Vals [i33])
  | 0, _, _ => none
  | n + 1, v11, v17 => bif (decide (v11 < v10)) then (chk (0 ≤ v11 ∧ v11 < (v15.length : Int)) (chk (v11.toNat < v15.length) (bif (decide ((IntKind.i64.wrap (v11 + (1 : Int))) < (v15.length : Int))) then (chk (0 ≤ (IntKind.i64.wrap (v11 + (1 : Int))) ∧ (IntKind.i64.wrap (v11 + (1 : Int))) < (v15.length : Int)) (chk ((IntKind.i64.wrap (v11 + (1 : Int))).toNat < v15.length) (chk (mixL Y108 v13 v12 = v12 ∧ ((v15.getD v11.toNat (dflt (hd Y108))) ∈ v12 ∧ (v15.getD ((IntKind.i64.wrap (v11 + (1 : Int))).toNat) (dflt (hd Y108))) ∈ v12) ∧ wayV_pre (lk Y108 v12 v13 (v15.getD v11.toNat (dflt (hd Y108)))) (lk Y108 v12 v13 (v15.getD ((IntKind.i64.wrap (v11 + (1 : Int))).toNat) (dflt (hd Y108))))) (bif (decide (((wayV (lk Y108 v12 v13 (v15.getD v11.toNat (dflt (hd Y108)))) (lk Y108 v12 v13 (v15.getD ((IntKind.i64.wrap (v11 + (1 : Int))).toNat) (dflt (hd Y108))))) : Int) = (0 : Int))) then (m230_l13 N v10 v12 v13 v14 v15 v16 k2 n (IntKind.i64.wrap (v11 + (1 : Int))) v17) else (chk (v17.length + ([(v15.getD v11.toNat (dflt (hd Y108)))] : List (Val (hd Y108))).length ≤ 1048576) (m230_l13 N v10 v12 v13 v14 v15 v16 k2 n (IntKind.i64.wrap (v11 + (1 : Int))) (v17 ++ ([(v15.getD v11.toNat (dflt (hd Y108)))] : List (Val (hd Y108)))))))))) else (chk (v17.length + ([(v15.getD v11.toNat (dflt (hd Y108)))] : List (Val (hd Y108))).length ≤ 1048576) (m230_l13 N v10 v12 v13 v14 v15 v16 k2 n (IntKind.i64.wrap (v11 + (1 : Int))) (v17 ++ ([(v15.getD v11.toNat (dflt (hd Y108)))] : List (Val (hd Y108))))))))) else (k2 v17)
noncomputable def m230 (N : Nat) (v0 : Int) (v1 : List (Val Y108)) : Option (Vals [i33]) := m230_l3 N v0 v1 (v1.length : Int) (0 : Int) (fun (v9 : List (Val Y108)) => chk (gs288.pre v9) (allG (fun p1 : List Nat × List (Val (hd Y108)) => Good Y108 p1.2 (srtV v9)) (fun p1 => m230_l13 N (p1.2.length : Int) p1.2 (srtV v9) (0 : Int) p1.2 v0 (fun (v19 : List (Val (hd Y108))) => chk (v19 = (keepV (srtV v9)).map (fun i => p1.2.getD i (dflt (hd Y108))) ∧ (keepV (srtV v9)).Nodup ∧ (∀ i ∈ (keepV (srtV v9)), i < (srtV v9).length) ∧ mixL Y108 (srtV v9) p1.2 = p1.2 ∧ p1.2.length = (srtV v9).length) (some ((v0, ((keepV (srtV v9)).map (fun i => (srtV v9).getD i (dflt Y108)))), ()))) N (0 : Int) ([] : List (Val (hd Y108)))))) N (0 : Int) ([] : List (Val Y108))
def Γ230 : Gam := [(213, g213), (236, g236), (287, g287), (290, g290)]
theorem Γ230_213 : Gam.get Γ230 213 = some g213 := rfl
theorem Γ230_236 : Gam.get Γ230 236 = some g236 := rfl
theorem Γ230_287 : Gam.get Γ230 287 = some g287 := rfl
theorem Γ230_290 : Gam.get Γ230 290 = some g290 := rfl
def nl230_3 : Nm := ⟨[true, false, false, false, true, true, false, false, false, false, false, false, true, true, true], [], false⟩
theorem nl230_3_zero : nl230_3.zero = false := rfl
theorem nl230_3_fix : nl230_3.fix = [] := rfl
theorem nl230_3_keep : nl230_3.keep = [true, false, false, false, true, true, false, false, false, false, false, false, true, true, true] := rfl
def nl230_13 : Nm := ⟨[false, false, false, false, true, true, false, false, true, false, false, false, false, false, false, false, false, false, false, false, false, false, false, false, false, false, false, false, false, false, false, false, false, false, false, false, false, false, false, false, false, false, false, false, false, false, true, true, true], [], false⟩
theorem nl230_13_zero : nl230_13.zero = false := rfl
theorem nl230_13_fix : nl230_13.fix = [] := rfl
theorem nl230_13_keep : nl230_13.keep = [false, false, false, false, true, true, false, false, true, false, false, false, false, false, false, false, false, false, false, false, false, false, false, false, false, false, false, false, false, false, false, false, false, false, false, false, false, false, false, false, false, false, false, false, false, false, true, true, true] := rfl
def nx230_0 : Nm := ⟨[true, false, false, false, true, true], [], false⟩
theorem nx230_0_zero : nx230_0.zero = false := rfl
theorem nx230_0_fix : nx230_0.fix = [] := rfl
theorem nx230_0_keep : nx230_0.keep = [true, false, false, false, true, true] := rfl
def nx230_2 : Nm := ⟨[false, false, false, false, true, false, false, false, true], [], false⟩
theorem nx230_2_zero : nx230_2.zero = false := rfl
theorem nx230_2_fix : nx230_2.fix = [] := rfl
theorem nx230_2_keep : nx230_2.keep = [false, false, false, false, true, false, false, false, true] := rfl
def tr230 : Nat → Tree := fun i => if i = 15 then .quiet 0 (.quiet 1 (.quiet 2 (.quiet 3 (.quiet 4 (.quiet 5 (.quiet 6 (.quiet 7 (.quiet 8 (.quiet 9 (.quiet 10 (.quiet 11 (.alt 12 (.quiet 13 (.quiet 14 .done)) .stop)))))))))))) else .done
def lp230 : Nat → Nm := fun i => if i = 3 then nl230_3 else if i = 13 then nl230_13 else ⟨[], [], false⟩
noncomputable def sem230 : Sem := ownSem [(288, .sr gs288)]
noncomputable def jn230 : Nat → Option Jn := fun i => if i = 11 then some (.at none (some ttH)) else if i = 12 then some (.at (some (.opn 1 Y108)) none) else if i = 16 then some (.at none (some ttH)) else if i = 18 then some (.at (some (.cls 3 0 Y108 keepV)) none) else none
def ex230 : Nat → Option Nm := fun i => if i = 0 then some nx230_0 else if i = 2 then some nx230_2 else none
def rg230 : Nat → Option Nm := fun _ => none
theorem p230 : plansOk tr230 (Tryz.f230.body.getD .skip) = true := by kernel_rfl
noncomputable def T230 (N : Nat) : Tab := { tr := tr230, lp := lp230, ex := ex230, rg := rg230, jn := jn230, fuel := N, sem := sem230 }
theorem T230_pins (N : Nat) : (T230 N).pins = false := rfl
theorem tb230 (N : Nat) : TbOk Tryz.prog (T230 N) := fun id j t h ht => by
  have h : jn230 id = _ := h
  unfold jn230 at h
  repeat' split at h
  all_goals first | (simp at h; done) | (simp only [Option.some.injEq] at h; subst h; simp [Jn.tb] at ht; done) | (simp only [Option.some.injEq] at h; subst h; simp only [Jn.tb, Option.some.injEq] at ht; subst ht; exact hTH)
theorem T230_sem (N : Nat) : (T230 N).sem = sem230 := rfl
theorem T230_tr (N : Nat) (i : Nat) : (T230 N).tr i = tr230 i := rfl
theorem T230_lp (N : Nat) (i : Nat) : (T230 N).lp i = lp230 i := rfl
theorem T230_ex (N : Nat) (i : Nat) : (T230 N).ex i = ex230 i := rfl
theorem T230_rg (N : Nat) (i : Nat) : (T230 N).rg i = rg230 i := rfl
theorem T230_jn (N : Nat) (i : Nat) : (T230 N).jn i = jn230 i := rfl
theorem T230_fuel (N : Nat) : (T230 N).fuel = N := rfl
noncomputable def c230_3 : Code := cut [true, true, false, true, true, true] (Tryz.f230.body.getD .skip)
theorem c230_3_at {N : Nat} {Q : X → St → Option (Vals [i33])} {e : List LV} {h : List Blk} : runT tt Γ230 (T230 N) c230_3 Q ⟨e, h⟩ = runT tt Γ230 (T230 N) (cut [true, true, false, true, true, true] (Tryz.f230.body.getD .skip)) Q ⟨e, h⟩ := rfl
theorem r230_l3 (N : Nat) (v2 : Int) (v3 : List (Val Y108)) (v4 : Int) (v6 : Int) {k0 : (List (Val Y108)) → Option (Vals [i33])} {Q : X → St → Option (Vals [i33])} {c : Code} (hc : c = c230_3) (hret : ∀ st, Q .ret st = retS tt true [i33] [.cell 4 33] st) (h0 : ∀ (v8 : List (Val Y108)), Q (.exit 0) ⟨[.one (.int .i64 v2), u, u, u, .one (.ptr 0 0 0), .one (.own 1), u, u, u, u, u, u, u, u, u, u, u, u, u, u, u, u, u, u, u, u, u, u, u, u, u, u, u, u, u, u, u, u, u, u, u, u, u, u, u, u, u, u, u, u, u, u, u, u, u, u, u, u, u, u, u, u, u, u, u, u, u, u, u, u, u, u, u, u, u, u], [.box [.int .i64 v6, .nils], .row 108 Y108 v8 true true 0]⟩ = k0 v8) : ∀ (n : Nat) (v5 : Int) (v7 : List (Val Y108)), loopR (runT tt Γ230 (T230 N) c) false nl230_3 Q n ⟨[.one (.int .i64 v2), u, u, u, .one (.ptr 0 0 0), .one (.own 1), u, u, u, u, u, u, .one (.sl 108 Y108 v3 2), .one (.int .i64 v4), .one (.int .i64 v5), u, u, u, u, u, u, u, u, u, u, u, u, u, u, u, u, u, u, u, u, u, u, u, u, u, u, u, u, u, u, u, u, u, u, u, u, u, u, u, u, u, u, u, u, u, u, u, u, u, u, u, u, u, u, u, u, u, u, u, u, u], [.box [.int .i64 v6, .nils], .row 108 Y108 v7 true true 0]⟩ = m230_l3 N v2 v3 v4 v6 k0 n v5 v7 := by
  subst hc; intro n; induction n with
  | zero => intros; rfl
  | succ n ih =>
    intro v5 v7
    rw [loop_succ, c230_3_at, m230_l3]; unfold Tryz.f230
    simp (maxSteps := 10000000) -implicitDefEqProofs [T230_tr, tr230, T230_lp, lp230, T230_ex, ex230, T230_rg, rg230, T230_jn, jn230, T230_fuel, T230_pins, T230_sem, sem230, semR', gs288, joinR_f (id := 11), joinR_d (id := 11), joinR_f (id := 12), joinR_d (id := 12), joinR_f (id := 16), joinR_d (id := 16), joinR_f (id := 18), joinR_d (id := 18), nl230_3_fix, nl230_3_keep, nl230_3_zero, nl230_13_fix, nl230_13_keep, nl230_13_zero, nx230_0_fix, nx230_0_keep, nx230_0_zero, nx230_2_fix, nx230_2_keep, nx230_2_zero, Γ230_213, Γ230_236, Γ230_287, Γ230_290, g213, g236, g287, g290, hret, h0, ih]
noncomputable def c230_13 : Code := cut [true, true, true, true, true, false, true, true, true] (Tryz.f230.body.getD .skip)
theorem c230_13_at {N : Nat} {Q : X → St → Option (Vals [i33])} {e : List LV} {h : List Blk} : runT tt Γ230 (T230 N) c230_13 Q ⟨e, h⟩ = runT tt Γ230 (T230 N) (cut [true, true, true, true, true, false, true, true, true] (Tryz.f230.body.getD .skip)) Q ⟨e, h⟩ := rfl
theorem r230_l13 (N : Nat) (F : List Nat) (v10 : Int) (v12 : List (Val (hd Y108))) (v13 : List (Val Y108)) (v14 : Int) (v15 : List (Val (hd Y108))) (v16 : Int) {k2 : (List (Val (hd Y108))) → Option (Vals [i33])} {Q : X → St → Option (Vals [i33])} {c : Code} (hc : c = c230_13) (hret : ∀ st, Q .ret st = retS tt true [i33] [.cell 4 33] st) (h2 : ∀ (v18 : List (Val (hd Y108))), Q (.exit 2) ⟨[u, u, u, u, .one (.ptr 1 0 0), u, u, u, .one (.ptr 2 0 0), u, u, u, u, u, u, u, u, u, u, u, u, u, u, u, u, u, u, u, u, u, u, u, u, u, u, u, u, u, u, u, u, u, u, u, u, u, u, u, u, u, u, u, u, u, u, u, u, u, u, u, u, u, u, u, u, u, u, u, u, u, u, u, u, u, u, u], [.nst F Y108 v12 v13, .box [.int .i64 v14, .nils], .box [.int .i64 v16, .own 3], .row 108 (hd Y108) v18 true true 0]⟩ = k2 v18) : ∀ (n : Nat) (v11 : Int) (v17 : List (Val (hd Y108))), loopR (runT tt Γ230 (T230 N) c) false nl230_13 Q n ⟨[u, u, u, u, .one (.ptr 1 0 0), .one (.own 2), u, u, .one (.ptr 3 0 0), u, u, u, u, u, u, u, u, u, u, u, u, u, u, u, u, u, u, u, u, u, u, u, u, u, u, u, u, u, u, u, u, u, u, u, u, u, .one (.own 2), .one (.int .i64 v10), .one (.int .i64 v11), u, u, u, u, u, u, u, u, u, u, u, u, u, u, u, u, u, u, u, u, u, u, u, u, u, u, u], [.nst F Y108 v12 v13, .box [.int .i64 v14, .nils], .row 108 (hd Y108) v15 true true 0, .box [.int .i64 v16, .own 4], .row 108 (hd Y108) v17 true true 0]⟩ = m230_l13 N v10 v12 v13 v14 v15 v16 k2 n v11 v17 := by
  subst hc; intro n; induction n with
  | zero => intros; rfl
  | succ n ih =>
    intro v11 v17
    rw [loop_succ, c230_13_at, m230_l13]; unfold Tryz.f230
    simp (maxSteps := 10000000) -implicitDefEqProofs [T230_tr, tr230, T230_lp, lp230, T230_ex, ex230, T230_rg, rg230, T230_jn, jn230, T230_fuel, T230_pins, T230_sem, sem230, semR', gs288, joinR_f (id := 11), joinR_d (id := 11), joinR_f (id := 12), joinR_d (id := 12), joinR_f (id := 16), joinR_d (id := 16), joinR_f (id := 18), joinR_d (id := 18), nl230_3_fix, nl230_3_keep, nl230_3_zero, nl230_13_fix, nl230_13_keep, nl230_13_zero, nx230_0_fix, nx230_0_keep, nx230_0_zero, nx230_2_fix, nx230_2_keep, nx230_2_zero, Γ230_213, Γ230_236, Γ230_287, Γ230_290, g213, g236, g287, g290, hret, h2, ih]
theorem run230 (N : Nat) (v0 : Int) (v1 : List (Val Y108)) : runT tt Γ230 (T230 N) (Tryz.f230.body.getD .skip) (retR tt true [i33] [.cell 4 33]) (entryP [i3, i31] 76 (v0, v1, ())) = m230 N v0 v1 := by
  unfold Tryz.f230
  simp (maxSteps := 10000000) -implicitDefEqProofs [T230_tr, tr230, T230_lp, lp230, T230_ex, ex230, T230_rg, rg230, T230_jn, jn230, T230_fuel, T230_pins, T230_sem, sem230, semR', gs288, joinR_f (id := 11), joinR_d (id := 11), joinR_f (id := 12), joinR_d (id := 12), joinR_f (id := 16), joinR_d (id := 16), joinR_f (id := 18), joinR_d (id := 18), nl230_3_fix, nl230_3_keep, nl230_3_zero, nl230_13_fix, nl230_13_keep, nl230_13_zero, nx230_0_fix, nx230_0_keep, nx230_0_zero, nx230_2_fix, nx230_2_keep, nx230_2_zero, Γ230_213, Γ230_236, Γ230_287, Γ230_290, g213, g236, g287, g290]
  rewrite [r230_l3 (k0 := (fun (v9 : List (Val Y108)) => chk (gs288.pre v9) (allG (fun p1 : List Nat × List (Val (hd Y108)) => Good Y108 p1.2 (srtV v9)) (fun p1 => m230_l13 N (p1.2.length : Int) p1.2 (srtV v9) (0 : Int) p1.2 v0 (fun (v19 : List (Val (hd Y108))) => chk (v19 = (keepV (srtV v9)).map (fun i => p1.2.getD i (dflt (hd Y108))) ∧ (keepV (srtV v9)).Nodup ∧ (∀ i ∈ (keepV (srtV v9)), i < (srtV v9).length) ∧ mixL Y108 (srtV v9) p1.2 = p1.2 ∧ p1.2.length = (srtV v9).length) (some ((v0, ((keepV (srtV v9)).map (fun i => (srtV v9).getD i (dflt Y108)))), ()))) N (0 : Int) ([] : List (Val (hd Y108))))))) N _ _ _ _ ?_ ?_ ?_]
  · rewrite [m230]; first | rfl | simp (maxSteps := 10000000) -implicitDefEqProofs []
  · rfl
  · intro; simp only [seqR_ret, blockR_ret, retR_ret, retX_ret]
  · intro v9; simp (maxSteps := 10000000) -implicitDefEqProofs [T230_tr, tr230, T230_lp, lp230, T230_ex, ex230, T230_rg, rg230, T230_jn, jn230, T230_fuel, T230_pins, T230_sem, sem230, semR', gs288, joinR_f (id := 11), joinR_d (id := 11), joinR_f (id := 12), joinR_d (id := 12), joinR_f (id := 16), joinR_d (id := 16), joinR_f (id := 18), joinR_d (id := 18), nl230_3_fix, nl230_3_keep, nl230_3_zero, nl230_13_fix, nl230_13_keep, nl230_13_zero, nx230_0_fix, nx230_0_keep, nx230_0_zero, nx230_2_fix, nx230_2_keep, nx230_2_zero, Γ230_213, Γ230_236, Γ230_287, Γ230_290, g213, g236, g287, g290]
    repeat' (first | refine chk_congr fun _ => ?_ | refine allG_congr fun p1 _ => ?_)
    rewrite [r230_l13 (k2 := (fun (v19 : List (Val (hd Y108))) => chk (v19 = (keepV (srtV v9)).map (fun i => p1.2.getD i (dflt (hd Y108))) ∧ (keepV (srtV v9)).Nodup ∧ (∀ i ∈ (keepV (srtV v9)), i < (srtV v9).length) ∧ mixL Y108 (srtV v9) p1.2 = p1.2 ∧ p1.2.length = (srtV v9).length) (some ((v0, ((keepV (srtV v9)).map (fun i => (srtV v9).getD i (dflt Y108)))), ())))) N _ _ _ _ _ _ _ ?_ ?_ ?_]
    · first | rfl | simp (maxSteps := 10000000) -implicitDefEqProofs []
    · rfl
    · intro; simp only [seqR_ret, blockR_ret, retR_ret, retX_ret]
    · intro v19; simp (maxSteps := 10000000) -implicitDefEqProofs [T230_tr, tr230, T230_lp, lp230, T230_ex, ex230, T230_rg, rg230, T230_jn, jn230, T230_fuel, T230_pins, T230_sem, sem230, semR', gs288, joinR_f (id := 11), joinR_d (id := 11), joinR_f (id := 12), joinR_d (id := 12), joinR_f (id := 16), joinR_d (id := 16), joinR_f (id := 18), joinR_d (id := 18), nl230_3_fix, nl230_3_keep, nl230_3_zero, nl230_13_fix, nl230_13_keep, nl230_13_zero, nx230_0_fix, nx230_0_keep, nx230_0_zero, nx230_2_fix, nx230_2_keep, nx230_2_zero, Γ230_213, Γ230_236, Γ230_287, Γ230_290, g213, g236, g287, g290]
end Go.T
