/- Normal cells. -/
import Derived.Test.YthefcjjgchekiaaB2
set_option linter.unusedSimpArgs false
set_option linter.unusedVariables false
namespace Go.T
open Go Go.Proofs
set_option maxHeartbeats 4000000
set_option maxRecDepth 100000
-- slices.Concat[[]impl.Atom,impl.Atom]
noncomputable def m47_l3 (N : Nat) (v1 : List (Val (.slice 36 Y36))) (v3 : List (Val (.slice 36 Y36))) (v4 : Int) (k0 : Int → Option (Vals [i30])) : Nat → Int → Int → Option (Vals [i30])
  | 0, _, _ => none
  | n + 1, v2, v5 => bif (decide (v5 < v4)) then (chk (0 ≤ v5 ∧ v5 < (v3.length : Int)) (bif (decide ((IntKind.i64.wrap (v2 + (((v3.getD v5.toNat (dflt (.slice 36 Y36))) : List (Val Y36)).length : Int))) < (0 : Int))) then (none) else (m47_l3 N v1 v3 v4 k0 n (IntKind.i64.wrap (v2 + (((v3.getD v5.toNat (dflt (.slice 36 Y36))) : List (Val Y36)).length : Int))) (IntKind.i64.wrap (v5 + (1 : Int)))))) else (k0 v2)
noncomputable def m47_l11 (N : Nat) (v8 : List (Val (.slice 36 Y36))) (v9 : Int) (k2 : (List (Val Y36)) → Option (Vals [i30])) : Nat → Int → (List (Val Y36)) → Option (Vals [i30])
  | 0, _, _ => none
  | n + 1, v10, v11 => bif (decide (v10 < v9)) then (chk (0 ≤ v10 ∧ v10 < (v8.length : Int)) (chk (v11.length + ((v8.getD v10.toNat (dflt (.slice 36 Y36))) : List (Val Y36)).length ≤ 1048576) (m47_l11 N v8 v9 k2 n (IntKind.i64.wrap (v10 + (1 : Int))) (v11 ++ ((v8.getD v10.toNat (dflt (.slice 36 Y36))) : List (Val Y36)))))) else (k2 v11)
noncomputable def m47 (N : Nat) (v0 : List (Val (.slice 36 Y36))) : Option (Vals [i30]) := m47_l3 N v0 v0 (v0.length : Int) (fun (v7 : Int) => chk (0 ≤ v7 ∧ v7 ≤ 1048576) (m47_l11 N v0 (v0.length : Int) (fun (v13 : List (Val Y36)) => some (v13, ())) N (0 : Int) ([] : List (Val Y36)))) N (0 : Int) (0 : Int)
def Γ47 : Gam := []
def nl47_3 : Nm := ⟨[true, false, false, true, false, false, false, false, false, true, true, true], []⟩
theorem nl47_3_fix : nl47_3.fix = [] := rfl
theorem nl47_3_keep : nl47_3.keep = [true, false, false, true, false, false, false, false, false, true, true, true] := rfl
def nl47_11 : Nm := ⟨[false, false, false, false, false, false, true, false, false, false, false, false, false, false, false, false, false, false, false, false, false, false, false, false, false, true, true, true], [.und 6 0 36 Y36]⟩
theorem nl47_11_fix : nl47_11.fix = [.und 6 0 36 Y36] := rfl
theorem nl47_11_keep : nl47_11.keep = [false, false, false, false, false, false, true, false, false, false, false, false, false, false, false, false, false, false, false, false, false, false, false, false, false, true, true, true] := rfl
def nx47_0 : Nm := ⟨[true, false, false, true], []⟩
theorem nx47_0_fix : nx47_0.fix = [] := rfl
theorem nx47_0_keep : nx47_0.keep = [true, false, false, true] := rfl
def nx47_2 : Nm := ⟨[false, false, false, false, false, false, true], []⟩
theorem nx47_2_fix : nx47_2.fix = [] := rfl
theorem nx47_2_keep : nx47_2.keep = [false, false, false, false, false, false, true] := rfl
def tr47 : Nat → Tree := fun _ => .done
def lp47 : Nat → Nm := fun i => if i = 3 then nl47_3 else if i = 11 then nl47_11 else ⟨[], []⟩
noncomputable def sem47 : Sem := ownSem [(67, .gr 36 Y36)]
def jn47 : Nat → Option Jn := fun _ => none
def ex47 : Nat → Option Nm := fun i => if i = 0 then some nx47_0 else if i = 2 then some nx47_2 else none
def rg47 : Nat → Option Nm := fun _ => none
theorem p47 : plansOk tr47 (Try.f47.body.getD .skip) = true := by kernel_rfl
noncomputable def T47 (N : Nat) : Tab := { tr := tr47, lp := lp47, ex := ex47, rg := rg47, jn := jn47, fuel := N, sem := sem47 }
theorem T47_pins (N : Nat) : (T47 N).pins = false := rfl
theorem tb47 (N : Nat) : TbOk Try.prog (T47 N) := tb_none fun _ => rfl
theorem T47_sem (N : Nat) : (T47 N).sem = sem47 := rfl
theorem T47_tr (N i : Nat) : (T47 N).tr i = tr47 i := rfl
theorem T47_lp (N i : Nat) : (T47 N).lp i = lp47 i := rfl
theorem T47_ex (N i : Nat) : (T47 N).ex i = ex47 i := rfl
theorem T47_rg (N i : Nat) : (T47 N).rg i = rg47 i := rfl
theorem T47_jn (N i : Nat) : (T47 N).jn i = jn47 i := rfl
theorem T47_fuel (N : Nat) : (T47 N).fuel = N := rfl
noncomputable def c47_3 : Code := cut [true, true, false, true, true, true] (Try.f47.body.getD .skip)
theorem c47_3_at {N : Nat} {Q : X → St → Option (Vals [i30])} {e : List LV} {h : List Blk} : runT tt Γ47 (T47 N) c47_3 Q ⟨e, h⟩ = runT tt Γ47 (T47 N) (cut [true, true, false, true, true, true] (Try.f47.body.getD .skip)) Q ⟨e, h⟩ := rfl
theorem r47_l3 (N : Nat) (v1 : List (Val (.slice 36 Y36))) (v3 : List (Val (.slice 36 Y36))) (v4 : Int) {k0 : Int → Option (Vals [i30])} {Q : X → St → Option (Vals [i30])} {c : Code} (hc : c = c47_3) (hret : ∀ st, Q .ret st = retS tt false [i30] [.tmp 2] st) (h0 : ∀ (v6 : Int), Q (.exit 0) ⟨[.one (.sl 30 (.slice 36 Y36) v1 0), u, u, .one (.int .i64 v6), u, u, u, u, u, u, u, u, u, u, u, u, u, u, u, u, u, u, u, u, u, u, u, u, u, u, u, u, u, u, u, u], []⟩ = k0 v6) : ∀ (n : Nat) (v2 : Int) (v5 : Int), loopR (runT tt Γ47 (T47 N) c) false nl47_3 Q n ⟨[.one (.sl 30 (.slice 36 Y36) v1 0), u, u, .one (.int .i64 v2), u, u, u, u, u, .one (.sl 30 (.slice 36 Y36) v3 0), .one (.int .i64 v4), .one (.int .i64 v5), u, u, u, u, u, u, u, u, u, u, u, u, u, u, u, u, u, u, u, u, u, u, u, u], []⟩ = m47_l3 N v1 v3 v4 k0 n v2 v5 := by
  subst hc; intro n; induction n with
  | zero => intros; rfl
  | succ n ih =>
    intro v2 v5
    rw [loop_succ, c47_3_at, m47_l3]; unfold Try.f47
    simp (maxSteps := 10000000) -implicitDefEqProofs [T47_tr, tr47, T47_lp, lp47, T47_ex, ex47, T47_rg, rg47, T47_jn, jn47, T47_fuel, T47_pins, T47_sem, sem47, semR', nl47_3_fix, nl47_3_keep, nl47_11_fix, nl47_11_keep, nx47_0_fix, nx47_0_keep, nx47_2_fix, nx47_2_keep, hret, h0, ih]
noncomputable def c47_11 : Code := cut [true, true, true, true, false, true, true, true] (Try.f47.body.getD .skip)
theorem c47_11_at {N : Nat} {Q : X → St → Option (Vals [i30])} {e : List LV} {h : List Blk} : runT tt Γ47 (T47 N) c47_11 Q ⟨e, h⟩ = runT tt Γ47 (T47 N) (cut [true, true, true, true, false, true, true, true] (Try.f47.body.getD .skip)) Q ⟨e, h⟩ := rfl
theorem r47_l11 (N : Nat) (v8 : List (Val (.slice 36 Y36))) (v9 : Int) {k2 : (List (Val Y36)) → Option (Vals [i30])} {Q : X → St → Option (Vals [i30])} {c : Code} (hc : c = c47_11) (hret : ∀ st, Q .ret st = retS tt false [i30] [.tmp 2] st) (h2 : ∀ (v12 : List (Val Y36)), Q (.exit 2) ⟨[u, u, u, u, u, u, .one (.own 0), u, u, u, u, u, u, u, u, u, u, u, u, u, u, u, u, u, u, u, u, u, u, u, u, u, u, u, u, u], [.row 36 Y36 v12 false true 1]⟩ = k2 v12) : ∀ (n : Nat) (v10 : Int) (v11 : List (Val Y36)), loopR (runT tt Γ47 (T47 N) c) false nl47_11 Q n ⟨[u, u, u, u, u, u, .one (.own 0), u, u, u, u, u, u, u, u, u, u, u, u, u, u, u, u, u, u, .one (.sl 30 (.slice 36 Y36) v8 1), .one (.int .i64 v9), .one (.int .i64 v10), u, u, u, u, u, u, u, u], [.row 36 Y36 v11 false true 1]⟩ = m47_l11 N v8 v9 k2 n v10 v11 := by
  subst hc; intro n; induction n with
  | zero => intros; rfl
  | succ n ih =>
    intro v10 v11
    rw [loop_succ, c47_11_at, m47_l11]; unfold Try.f47
    simp (maxSteps := 10000000) -implicitDefEqProofs [T47_tr, tr47, T47_lp, lp47, T47_ex, ex47, T47_rg, rg47, T47_jn, jn47, T47_fuel, T47_pins, T47_sem, sem47, semR', nl47_3_fix, nl47_3_keep, nl47_11_fix, nl47_11_keep, nx47_0_fix, nx47_0_keep, nx47_2_fix, nx47_2_keep, hret, h2, ih]
theorem run47 (N : Nat) (v0 : List (Val (.slice 36 Y36))) : runT tt Γ47 (T47 N) (Try.f47.body.getD .skip) (retR tt false [i30] [.tmp 2]) (entryP [i85] 36 (v0, ())) = m47 N v0 := by
  unfold Try.f47
  simp (maxSteps := 10000000) -implicitDefEqProofs [T47_tr, tr47, T47_lp, lp47, T47_ex, ex47, T47_rg, rg47, T47_jn, jn47, T47_fuel, T47_pins, T47_sem, sem47, semR', nl47_3_fix, nl47_3_keep, nl47_11_fix, nl47_11_keep, nx47_0_fix, nx47_0_keep, nx47_2_fix, nx47_2_keep]
  rewrite [r47_l3 (k0 := (fun (v7 : Int) => chk (0 ≤ v7 ∧ v7 ≤ 1048576) (m47_l11 N v0 (v0.length : Int) (fun (v13 : List (Val Y36)) => some (v13, ())) N (0 : Int) ([] : List (Val Y36))))) N _ _ _ ?_ ?_ ?_]
  · rewrite [m47]; first | rfl | simp (maxSteps := 10000000) -implicitDefEqProofs []
  · rfl
  · intro; simp only [seqR_ret, blockR_ret, retR_ret, retX_ret]
  · intro v7; simp (maxSteps := 10000000) -implicitDefEqProofs [T47_tr, tr47, T47_lp, lp47, T47_ex, ex47, T47_rg, rg47, T47_jn, jn47, T47_fuel, T47_pins, T47_sem, sem47, semR', nl47_3_fix, nl47_3_keep, nl47_11_fix, nl47_11_keep, nx47_0_fix, nx47_0_keep, nx47_2_fix, nx47_2_keep]
    rewrite [r47_l11 (k2 := (fun (v13 : List (Val Y36)) => some (v13, ()))) N _ _ ?_ ?_ ?_]
    · first | rfl | simp (maxSteps := 10000000) -implicitDefEqProofs []
    · rfl
    · intro; simp only [seqR_ret, blockR_ret, retR_ret, retX_ret]
    · intro v13; simp (maxSteps := 10000000) -implicitDefEqProofs [T47_tr, tr47, T47_lp, lp47, T47_ex, ex47, T47_rg, rg47, T47_jn, jn47, T47_fuel, T47_pins, T47_sem, sem47, semR', nl47_3_fix, nl47_3_keep, nl47_11_fix, nl47_11_keep, nx47_0_fix, nx47_0_keep, nx47_2_fix, nx47_2_keep]
-- impl.normalOf
noncomputable def m52_l3 (N : Nat) (v2 : Int) (v3 : List (Val Y36)) (v4 : Int) (v6 : Int) (k0 : (List (Val Y36)) → Option (Vals [i32])) : Nat → Int → (List (Val Y36)) → Option (Vals [i32])
  | 0, _, _ => none
  | n + 1, v5, v7 => bif (decide (v5 < v4)) then (chk (0 ≤ v5 ∧ v5 < (v3.length : Int)) (chk (hasVar_pre (v3.getD v5.toNat (dflt Y36))) (bif (!((hasVar (v3.getD v5.toNat (dflt Y36))) : Bool)) then (bif (decide ((0 : Int) < (((v3.getD v5.toNat (dflt Y36)).2).1 : Int))) then (chk (noneC_pre v2) (some ((((noneC v2).1 : Int), ((noneC v2).2 : List (Val Y36))), ()))) else (bif (decide ((((v3.getD v5.toNat (dflt Y36)).2).1 : Int) = (0 : Int))) then (bif (((v3.getD v5.toNat (dflt Y36)).2).2 : Bool) then (chk (noneC_pre v2) (some ((((noneC v2).1 : Int), ((noneC v2).2 : List (Val Y36))), ()))) else (m52_l3 N v2 v3 v4 v6 k0 n (IntKind.i64.wrap (v5 + (1 : Int))) v7)) else (m52_l3 N v2 v3 v4 v6 k0 n (IntKind.i64.wrap (v5 + (1 : Int))) v7))) else (chk (idA_pre (v3.getD v5.toNat (dflt Y36))) (chk (v7.length + ([(((idA (v3.getD v5.toNat (dflt Y36))).1 : List (Val (.int .i64))), (((idA (v3.getD v5.toNat (dflt Y36))).2).1 : Int), (((idA (v3.getD v5.toNat (dflt Y36))).2).2 : Bool))] : List (Val Y36)).length ≤ 1048576) (m52_l3 N v2 v3 v4 v6 k0 n (IntKind.i64.wrap (v5 + (1 : Int))) (v7 ++ ([(((idA (v3.getD v5.toNat (dflt Y36))).1 : List (Val (.int .i64))), (((idA (v3.getD v5.toNat (dflt Y36))).2).1 : Int), (((idA (v3.getD v5.toNat (dflt Y36))).2).2 : Bool))] : List (Val Y36))))))))) else (k0 v7)
noncomputable def m52_l13 (N : Nat) (v10 : Int) (v12 : List (Val (hd Y36))) (v13 : List (Val Y36)) (v14 : Int) (v15 : List (Val (hd Y36))) (v16 : Int) (k2 : (List (Val (hd Y36))) → Option (Vals [i32])) : Nat → Int → (List (Val (hd Y36))) → Option (Vals [i32])
  | 0, _, _ => none
  | n + 1, v11, v17 => bif (decide (v11 < v10)) then (chk (0 ≤ v11 ∧ v11 < (v15.length : Int)) (chk (v11.toNat < v15.length) (bif (decide ((IntKind.i64.wrap (v11 + (1 : Int))) < (v15.length : Int))) then (chk (0 ≤ (IntKind.i64.wrap (v11 + (1 : Int))) ∧ (IntKind.i64.wrap (v11 + (1 : Int))) < (v15.length : Int)) (chk ((IntKind.i64.wrap (v11 + (1 : Int))).toNat < v15.length) (chk (mixL Y36 v13 v12 = v12 ∧ ((v15.getD v11.toNat (dflt (hd Y36))) ∈ v12 ∧ (v15.getD ((IntKind.i64.wrap (v11 + (1 : Int))).toNat) (dflt (hd Y36))) ∈ v12) ∧ wayV_pre (lk Y36 v12 v13 (v15.getD v11.toNat (dflt (hd Y36)))) (lk Y36 v12 v13 (v15.getD ((IntKind.i64.wrap (v11 + (1 : Int))).toNat) (dflt (hd Y36))))) (bif (decide (((wayV (lk Y36 v12 v13 (v15.getD v11.toNat (dflt (hd Y36)))) (lk Y36 v12 v13 (v15.getD ((IntKind.i64.wrap (v11 + (1 : Int))).toNat) (dflt (hd Y36))))) : Int) = (0 : Int))) then (m52_l13 N v10 v12 v13 v14 v15 v16 k2 n (IntKind.i64.wrap (v11 + (1 : Int))) v17) else (chk (v17.length + ([(v15.getD v11.toNat (dflt (hd Y36)))] : List (Val (hd Y36))).length ≤ 1048576) (m52_l13 N v10 v12 v13 v14 v15 v16 k2 n (IntKind.i64.wrap (v11 + (1 : Int))) (v17 ++ ([(v15.getD v11.toNat (dflt (hd Y36)))] : List (Val (hd Y36)))))))))) else (chk (v17.length + ([(v15.getD v11.toNat (dflt (hd Y36)))] : List (Val (hd Y36))).length ≤ 1048576) (m52_l13 N v10 v12 v13 v14 v15 v16 k2 n (IntKind.i64.wrap (v11 + (1 : Int))) (v17 ++ ([(v15.getD v11.toNat (dflt (hd Y36)))] : List (Val (hd Y36))))))))) else (k2 v17)
noncomputable def m52 (N : Nat) (v0 : Int) (v1 : List (Val Y36)) : Option (Vals [i32]) := m52_l3 N v0 v1 (v1.length : Int) (0 : Int) (fun (v9 : List (Val Y36)) => chk (gs74.pre v9) (allG (fun p1 : List Nat × List (Val (hd Y36)) => Good Y36 p1.2 (srtV v9)) (fun p1 => m52_l13 N (p1.2.length : Int) p1.2 (srtV v9) (0 : Int) p1.2 v0 (fun (v19 : List (Val (hd Y36))) => chk (v19 = (keepV (srtV v9)).map (fun i => p1.2.getD i (dflt (hd Y36))) ∧ (keepV (srtV v9)).Nodup ∧ (∀ i ∈ (keepV (srtV v9)), i < (srtV v9).length) ∧ mixL Y36 (srtV v9) p1.2 = p1.2 ∧ p1.2.length = (srtV v9).length) (some ((v0, ((keepV (srtV v9)).map (fun i => (srtV v9).getD i (dflt Y36)))), ()))) N (0 : Int) ([] : List (Val (hd Y36)))))) N (0 : Int) ([] : List (Val Y36))
def Γ52 : Gam := [(71, g71), (72, g72), (73, g73), (76, g76)]
theorem Γ52_71 : Gam.get Γ52 71 = some g71 := rfl
theorem Γ52_72 : Gam.get Γ52 72 = some g72 := rfl
theorem Γ52_73 : Gam.get Γ52 73 = some g73 := rfl
theorem Γ52_76 : Gam.get Γ52 76 = some g76 := rfl
def nl52_3 : Nm := ⟨[true, false, false, false, true, true, false, false, false, false, false, false, true, true, true], []⟩
theorem nl52_3_fix : nl52_3.fix = [] := rfl
theorem nl52_3_keep : nl52_3.keep = [true, false, false, false, true, true, false, false, false, false, false, false, true, true, true] := rfl
def nl52_13 : Nm := ⟨[false, false, false, false, true, true, false, false, true, false, false, false, false, false, false, false, false, false, false, false, false, false, false, false, false, false, false, false, false, false, false, false, false, false, false, false, false, false, false, false, false, false, false, false, false, false, true, true, true], []⟩
theorem nl52_13_fix : nl52_13.fix = [] := rfl
theorem nl52_13_keep : nl52_13.keep = [false, false, false, false, true, true, false, false, true, false, false, false, false, false, false, false, false, false, false, false, false, false, false, false, false, false, false, false, false, false, false, false, false, false, false, false, false, false, false, false, false, false, false, false, false, false, true, true, true] := rfl
def nx52_0 : Nm := ⟨[true, false, false, false, true, true], []⟩
theorem nx52_0_fix : nx52_0.fix = [] := rfl
theorem nx52_0_keep : nx52_0.keep = [true, false, false, false, true, true] := rfl
def nx52_2 : Nm := ⟨[false, false, false, false, true, false, false, false, true], []⟩
theorem nx52_2_fix : nx52_2.fix = [] := rfl
theorem nx52_2_keep : nx52_2.keep = [false, false, false, false, true, false, false, false, true] := rfl
def tr52 : Nat → Tree := fun i => if i = 15 then .quiet 0 (.quiet 1 (.quiet 2 (.quiet 3 (.quiet 4 (.quiet 5 (.quiet 6 (.quiet 7 (.quiet 8 (.quiet 9 (.quiet 10 (.quiet 11 (.alt 12 (.quiet 13 (.quiet 14 .done)) .stop)))))))))))) else .done
def lp52 : Nat → Nm := fun i => if i = 3 then nl52_3 else if i = 13 then nl52_13 else ⟨[], []⟩
noncomputable def sem52 : Sem := ownSem [(74, .sr gs74)]
noncomputable def jn52 : Nat → Option Jn := fun i => if i = 11 then some (.at none (some ttH)) else if i = 12 then some (.at (some (.opn 1 Y36)) none) else if i = 16 then some (.at none (some ttH)) else if i = 18 then some (.at (some (.cls 3 0 Y36 keepV)) none) else none
def ex52 : Nat → Option Nm := fun i => if i = 0 then some nx52_0 else if i = 2 then some nx52_2 else none
def rg52 : Nat → Option Nm := fun _ => none
theorem p52 : plansOk tr52 (Try.f52.body.getD .skip) = true := by kernel_rfl
noncomputable def T52 (N : Nat) : Tab := { tr := tr52, lp := lp52, ex := ex52, rg := rg52, jn := jn52, fuel := N, sem := sem52 }
theorem T52_pins (N : Nat) : (T52 N).pins = false := rfl
theorem tb52 (N : Nat) : TbOk Try.prog (T52 N) := fun id p t h => by
  have h : jn52 id = _ := h
  unfold jn52 at h
  repeat' split at h
  all_goals first | (simp at h; done) | (simp only [Option.some.injEq, Jn.at.injEq] at h; obtain ⟨-, rfl⟩ := h; exact hTH)
theorem T52_sem (N : Nat) : (T52 N).sem = sem52 := rfl
theorem T52_tr (N i : Nat) : (T52 N).tr i = tr52 i := rfl
theorem T52_lp (N i : Nat) : (T52 N).lp i = lp52 i := rfl
theorem T52_ex (N i : Nat) : (T52 N).ex i = ex52 i := rfl
theorem T52_rg (N i : Nat) : (T52 N).rg i = rg52 i := rfl
theorem T52_jn (N i : Nat) : (T52 N).jn i = jn52 i := rfl
theorem T52_fuel (N : Nat) : (T52 N).fuel = N := rfl
noncomputable def c52_3 : Code := cut [true, true, false, true, true, true] (Try.f52.body.getD .skip)
theorem c52_3_at {N : Nat} {Q : X → St → Option (Vals [i32])} {e : List LV} {h : List Blk} : runT tt Γ52 (T52 N) c52_3 Q ⟨e, h⟩ = runT tt Γ52 (T52 N) (cut [true, true, false, true, true, true] (Try.f52.body.getD .skip)) Q ⟨e, h⟩ := rfl
theorem r52_l3 (N : Nat) (v2 : Int) (v3 : List (Val Y36)) (v4 : Int) (v6 : Int) {k0 : (List (Val Y36)) → Option (Vals [i32])} {Q : X → St → Option (Vals [i32])} {c : Code} (hc : c = c52_3) (hret : ∀ st, Q .ret st = retS tt true [i32] [.cell 4 32] st) (h0 : ∀ (v8 : List (Val Y36)), Q (.exit 0) ⟨[.one (.int .i64 v2), u, u, u, .one (.ptr 0 0 0), .one (.own 1), u, u, u, u, u, u, u, u, u, u, u, u, u, u, u, u, u, u, u, u, u, u, u, u, u, u, u, u, u, u, u, u, u, u, u, u, u, u, u, u, u, u, u, u, u, u, u, u, u, u, u, u, u, u, u, u, u, u, u, u, u, u, u, u, u, u, u, u, u, u], [.box [.int .i64 v6, .nils], .row 36 Y36 v8 true true 0]⟩ = k0 v8) : ∀ (n : Nat) (v5 : Int) (v7 : List (Val Y36)), loopR (runT tt Γ52 (T52 N) c) false nl52_3 Q n ⟨[.one (.int .i64 v2), u, u, u, .one (.ptr 0 0 0), .one (.own 1), u, u, u, u, u, u, .one (.sl 36 Y36 v3 2), .one (.int .i64 v4), .one (.int .i64 v5), u, u, u, u, u, u, u, u, u, u, u, u, u, u, u, u, u, u, u, u, u, u, u, u, u, u, u, u, u, u, u, u, u, u, u, u, u, u, u, u, u, u, u, u, u, u, u, u, u, u, u, u, u, u, u, u, u, u, u, u, u], [.box [.int .i64 v6, .nils], .row 36 Y36 v7 true true 0]⟩ = m52_l3 N v2 v3 v4 v6 k0 n v5 v7 := by
  subst hc; intro n; induction n with
  | zero => intros; rfl
  | succ n ih =>
    intro v5 v7
    rw [loop_succ, c52_3_at, m52_l3]; unfold Try.f52
    simp (maxSteps := 10000000) -implicitDefEqProofs [T52_tr, tr52, T52_lp, lp52, T52_ex, ex52, T52_rg, rg52, T52_jn, jn52, T52_fuel, T52_pins, T52_sem, sem52, semR', gs74, joinR_f, joinR_d, nl52_3_fix, nl52_3_keep, nl52_13_fix, nl52_13_keep, nx52_0_fix, nx52_0_keep, nx52_2_fix, nx52_2_keep, Γ52_71, Γ52_72, Γ52_73, Γ52_76, g71, g72, g73, g76, hret, h0, ih]
noncomputable def c52_13 : Code := cut [true, true, true, true, true, false, true, true, true] (Try.f52.body.getD .skip)
theorem c52_13_at {N : Nat} {Q : X → St → Option (Vals [i32])} {e : List LV} {h : List Blk} : runT tt Γ52 (T52 N) c52_13 Q ⟨e, h⟩ = runT tt Γ52 (T52 N) (cut [true, true, true, true, true, false, true, true, true] (Try.f52.body.getD .skip)) Q ⟨e, h⟩ := rfl
theorem r52_l13 (N : Nat) (F : List Nat) (v10 : Int) (v12 : List (Val (hd Y36))) (v13 : List (Val Y36)) (v14 : Int) (v15 : List (Val (hd Y36))) (v16 : Int) {k2 : (List (Val (hd Y36))) → Option (Vals [i32])} {Q : X → St → Option (Vals [i32])} {c : Code} (hc : c = c52_13) (hret : ∀ st, Q .ret st = retS tt true [i32] [.cell 4 32] st) (h2 : ∀ (v18 : List (Val (hd Y36))), Q (.exit 2) ⟨[u, u, u, u, .one (.ptr 1 0 0), u, u, u, .one (.ptr 2 0 0), u, u, u, u, u, u, u, u, u, u, u, u, u, u, u, u, u, u, u, u, u, u, u, u, u, u, u, u, u, u, u, u, u, u, u, u, u, u, u, u, u, u, u, u, u, u, u, u, u, u, u, u, u, u, u, u, u, u, u, u, u, u, u, u, u, u, u], [.nst F Y36 v12 v13, .box [.int .i64 v14, .nils], .box [.int .i64 v16, .own 3], .row 36 (hd Y36) v18 true true 0]⟩ = k2 v18) : ∀ (n : Nat) (v11 : Int) (v17 : List (Val (hd Y36))), loopR (runT tt Γ52 (T52 N) c) false nl52_13 Q n ⟨[u, u, u, u, .one (.ptr 1 0 0), .one (.own 2), u, u, .one (.ptr 3 0 0), u, u, u, u, u, u, u, u, u, u, u, u, u, u, u, u, u, u, u, u, u, u, u, u, u, u, u, u, u, u, u, u, u, u, u, u, u, .one (.own 2), .one (.int .i64 v10), .one (.int .i64 v11), u, u, u, u, u, u, u, u, u, u, u, u, u, u, u, u, u, u, u, u, u, u, u, u, u, u, u], [.nst F Y36 v12 v13, .box [.int .i64 v14, .nils], .row 36 (hd Y36) v15 true true 0, .box [.int .i64 v16, .own 4], .row 36 (hd Y36) v17 true true 0]⟩ = m52_l13 N v10 v12 v13 v14 v15 v16 k2 n v11 v17 := by
  subst hc; intro n; induction n with
  | zero => intros; rfl
  | succ n ih =>
    intro v11 v17
    rw [loop_succ, c52_13_at, m52_l13]; unfold Try.f52
    simp (maxSteps := 10000000) -implicitDefEqProofs [T52_tr, tr52, T52_lp, lp52, T52_ex, ex52, T52_rg, rg52, T52_jn, jn52, T52_fuel, T52_pins, T52_sem, sem52, semR', gs74, joinR_f, joinR_d, nl52_3_fix, nl52_3_keep, nl52_13_fix, nl52_13_keep, nx52_0_fix, nx52_0_keep, nx52_2_fix, nx52_2_keep, Γ52_71, Γ52_72, Γ52_73, Γ52_76, g71, g72, g73, g76, hret, h2, ih]
theorem run52 (N : Nat) (v0 : Int) (v1 : List (Val Y36)) : runT tt Γ52 (T52 N) (Try.f52.body.getD .skip) (retR tt true [i32] [.cell 4 32]) (entryP [i3, i30] 76 (v0, v1, ())) = m52 N v0 v1 := by
  unfold Try.f52
  simp (maxSteps := 10000000) -implicitDefEqProofs [T52_tr, tr52, T52_lp, lp52, T52_ex, ex52, T52_rg, rg52, T52_jn, jn52, T52_fuel, T52_pins, T52_sem, sem52, semR', gs74, joinR_f, joinR_d, nl52_3_fix, nl52_3_keep, nl52_13_fix, nl52_13_keep, nx52_0_fix, nx52_0_keep, nx52_2_fix, nx52_2_keep, Γ52_71, Γ52_72, Γ52_73, Γ52_76, g71, g72, g73, g76]
  rewrite [r52_l3 (k0 := (fun (v9 : List (Val Y36)) => chk (gs74.pre v9) (allG (fun p1 : List Nat × List (Val (hd Y36)) => Good Y36 p1.2 (srtV v9)) (fun p1 => m52_l13 N (p1.2.length : Int) p1.2 (srtV v9) (0 : Int) p1.2 v0 (fun (v19 : List (Val (hd Y36))) => chk (v19 = (keepV (srtV v9)).map (fun i => p1.2.getD i (dflt (hd Y36))) ∧ (keepV (srtV v9)).Nodup ∧ (∀ i ∈ (keepV (srtV v9)), i < (srtV v9).length) ∧ mixL Y36 (srtV v9) p1.2 = p1.2 ∧ p1.2.length = (srtV v9).length) (some ((v0, ((keepV (srtV v9)).map (fun i => (srtV v9).getD i (dflt Y36)))), ()))) N (0 : Int) ([] : List (Val (hd Y36))))))) N _ _ _ _ ?_ ?_ ?_]
  · rewrite [m52]; first | rfl | simp (maxSteps := 10000000) -implicitDefEqProofs []
  · rfl
  · intro; simp only [seqR_ret, blockR_ret, retR_ret, retX_ret]
  · intro v9; simp (maxSteps := 10000000) -implicitDefEqProofs [T52_tr, tr52, T52_lp, lp52, T52_ex, ex52, T52_rg, rg52, T52_jn, jn52, T52_fuel, T52_pins, T52_sem, sem52, semR', gs74, joinR_f, joinR_d, nl52_3_fix, nl52_3_keep, nl52_13_fix, nl52_13_keep, nx52_0_fix, nx52_0_keep, nx52_2_fix, nx52_2_keep, Γ52_71, Γ52_72, Γ52_73, Γ52_76, g71, g72, g73, g76]
    repeat' (first | refine chk_congr fun _ => ?_ | refine allG_congr fun p1 _ => ?_)
    rewrite [r52_l13 (k2 := (fun (v19 : List (Val (hd Y36))) => chk (v19 = (keepV (srtV v9)).map (fun i => p1.2.getD i (dflt (hd Y36))) ∧ (keepV (srtV v9)).Nodup ∧ (∀ i ∈ (keepV (srtV v9)), i < (srtV v9).length) ∧ mixL Y36 (srtV v9) p1.2 = p1.2 ∧ p1.2.length = (srtV v9).length) (some ((v0, ((keepV (srtV v9)).map (fun i => (srtV v9).getD i (dflt Y36)))), ())))) N _ _ _ _ _ _ _ ?_ ?_ ?_]
    · first | rfl | simp (maxSteps := 10000000) -implicitDefEqProofs []
    · rfl
    · intro; simp only [seqR_ret, blockR_ret, retR_ret, retX_ret]
    · intro v19; simp (maxSteps := 10000000) -implicitDefEqProofs [T52_tr, tr52, T52_lp, lp52, T52_ex, ex52, T52_rg, rg52, T52_jn, jn52, T52_fuel, T52_pins, T52_sem, sem52, semR', gs74, joinR_f, joinR_d, nl52_3_fix, nl52_3_keep, nl52_13_fix, nl52_13_keep, nx52_0_fix, nx52_0_keep, nx52_2_fix, nx52_2_keep, Γ52_71, Γ52_72, Γ52_73, Γ52_76, g71, g72, g73, g76]
end Go.T
