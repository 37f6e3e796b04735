/- Dropping variables. -/
import Derived.Test.YthefcjjgchekiaaB6
import Derived.Test.YthefcjjgchekiaaB8
set_option linter.unusedSimpArgs false
set_option linter.unusedVariables false
namespace Go.T
open Go Go.Proofs
set_option maxHeartbeats 4000000
set_option maxRecDepth 100000
def cfV (v : Int) (a : Val Y36) : Int := List.getD (α := Int) a.1 v.toNat 0
def mixIn (v : Int) (a : Val Y36) : List (Val Y36) → List (Val Y36) → Option (List (Val Y36))
  | [], s => some s
  | b :: r, s => bif decide (cfV v b < 0) then (bif (mixA a (-cfV v b) b (cfV v a)).2 then mixIn v a r (s ++ [(mixA a (-cfV v b) b (cfV v a)).1]) else none) else mixIn v a r s
def mixOut (v : Int) (l : List (Val Y36)) : List (Val Y36) → List (Val Y36) → Option (List (Val Y36))
  | [], s => some s
  | a :: r, s => bif decide (0 < cfV v a) then (match mixIn v a l s with
    | some s' => mixOut v l r s'
    | none => none) else mixOut v l r s
def dropL (c : Val Y32) (v : Int) : Val Y32 × Bool := match mixOut v c.2 c.2 (List.filter (α := Val Y36) (fun a => decide (cfV v a = 0)) c.2) with
  | some l => limV c.1 l
  | none => (((0 : Int), []), false)
def dropL_pre (c : Val Y32) (v : Int) : Prop := isCell c = true ∧ 0 ≤ v ∧ v < (c.1 : Int)
def dropV (c : Val Y32) (v : Int) : Val Y32 × Bool := bif isCell c && decide (0 ≤ v ∧ v < (c.1 : Int)) then dropL c v else (((0 : Int), []), false)
def dropV_pre (c : Val Y32) (_ : Int) : Prop := isCell_pre c
def g53 : G := { ps := [i32, i3], rs := [i32, i4], dp := true, pre := fun _ => True, fn := fun x => ((dropV x.1 x.2.1).1, (dropV x.1 x.2.1).2, ()) }
def g50 : G := { ps := [i32, i3], rs := [i32, i4], dp := false, pre := fun x => dropL_pre x.1 x.2.1, fn := fun x => ((dropL x.1 x.2.1).1, (dropL x.1 x.2.1).2, ()) }
-- impl.DropVariable
noncomputable def m53_l5 (N : Nat) (v2 : Int) (v3 : List (Val Y36)) (v4 : Int) (v6 : Int) (v7 : List (Val Y36)) (v8 : Int) (k0 : (List (Val Y36)) → Option (Vals [i32, i4])) : Nat → Int → (List (Val Y36)) → Option (Vals [i32, i4])
  | 0, _, _ => none
  | n + 1, v5, v9 => bif (decide (v5 < v4)) then (chk (0 ≤ v5 ∧ v5 < (v3.length : Int)) (chk (0 ≤ v2 ∧ v2 < (((v3.getD v5.toNat (dflt Y36)).1 : List (Val (.int .i64))).length : Int)) (bif (decide (((((v3.getD v5.toNat (dflt Y36)).1 : List (Val (.int .i64))).getD v2.toNat (dflt (.int .i64))) : Int) = (0 : Int))) then (chk (v9.length + ([(v3.getD v5.toNat (dflt Y36))] : List (Val Y36)).length ≤ 1048576) (m53_l5 N v2 v3 v4 v6 v7 v8 k0 n (IntKind.i64.wrap (v5 + (1 : Int))) (v9 ++ ([(v3.getD v5.toNat (dflt Y36))] : List (Val Y36))))) else (m53_l5 N v2 v3 v4 v6 v7 v8 k0 n (IntKind.i64.wrap (v5 + (1 : Int))) v9)))) else (k0 v9)
noncomputable def m53_l15 (N : Nat) (v36 : Int) (v37 : List (Val Y36)) (v38 : Int) (v39 : Int) (v40 : List (Val Y36)) (v41 : Int) (v43 : Int) (v44 : List (Val Y36)) (v45 : Int) (v47 : List (Val (.int .i64))) (v48 : Int) (v49 : Bool) (k4 : (List (Val Y36)) → Option (Vals [i32, i4])) : Nat → Int → (List (Val Y36)) → Option (Vals [i32, i4])
  | 0, _, _ => none
  | n + 1, v42, v46 => bif (decide (v42 < v41)) then (chk (0 ≤ v42 ∧ v42 < (v40.length : Int)) (chk (0 ≤ v36 ∧ v36 < (((v40.getD v42.toNat (dflt Y36)).1 : List (Val (.int .i64))).length : Int)) (bif (decide ((0 : Int) ≤ ((((v40.getD v42.toNat (dflt Y36)).1 : List (Val (.int .i64))).getD v36.toNat (dflt (.int .i64))) : Int))) then (m53_l15 N v36 v37 v38 v39 v40 v41 v43 v44 v45 v47 v48 v49 k4 n (IntKind.i64.wrap (v42 + (1 : Int))) v46) else (chk (0 ≤ v36 ∧ v36 < (((v40.getD v42.toNat (dflt Y36)).1 : List (Val (.int .i64))).length : Int)) (chk (0 ≤ v36 ∧ v36 < (v47.length : Int)) (bif (!((mixA (v47, v48, v49) (IntKind.i64.wrap (0 - ((((v40.getD v42.toNat (dflt Y36)).1 : List (Val (.int .i64))).getD v36.toNat (dflt (.int .i64))) : Int))) (v40.getD v42.toNat (dflt Y36)) ((v47.getD v36.toNat (dflt (.int .i64))) : Int)).2 : Bool)) then (some (((0 : Int), ([] : List (Val Y36))), false, ())) else (chk (v46.length + ([((((mixA (v47, v48, v49) (IntKind.i64.wrap (0 - ((((v40.getD v42.toNat (dflt Y36)).1 : List (Val (.int .i64))).getD v36.toNat (dflt (.int .i64))) : Int))) (v40.getD v42.toNat (dflt Y36)) ((v47.getD v36.toNat (dflt (.int .i64))) : Int)).1).1 : List (Val (.int .i64))), ((((mixA (v47, v48, v49) (IntKind.i64.wrap (0 - ((((v40.getD v42.toNat (dflt Y36)).1 : List (Val (.int .i64))).getD v36.toNat (dflt (.int .i64))) : Int))) (v40.getD v42.toNat (dflt Y36)) ((v47.getD v36.toNat (dflt (.int .i64))) : Int)).1).2).1 : Int), ((((mixA (v47, v48, v49) (IntKind.i64.wrap (0 - ((((v40.getD v42.toNat (dflt Y36)).1 : List (Val (.int .i64))).getD v36.toNat (dflt (.int .i64))) : Int))) (v40.getD v42.toNat (dflt Y36)) ((v47.getD v36.toNat (dflt (.int .i64))) : Int)).1).2).2 : Bool))] : List (Val Y36)).length ≤ 1048576) (m53_l15 N v36 v37 v38 v39 v40 v41 v43 v44 v45 v47 v48 v49 k4 n (IntKind.i64.wrap (v42 + (1 : Int))) (v46 ++ ([((((mixA (v47, v48, v49) (IntKind.i64.wrap (0 - ((((v40.getD v42.toNat (dflt Y36)).1 : List (Val (.int .i64))).getD v36.toNat (dflt (.int .i64))) : Int))) (v40.getD v42.toNat (dflt Y36)) ((v47.getD v36.toNat (dflt (.int .i64))) : Int)).1).1 : List (Val (.int .i64))), ((((mixA (v47, v48, v49) (IntKind.i64.wrap (0 - ((((v40.getD v42.toNat (dflt Y36)).1 : List (Val (.int .i64))).getD v36.toNat (dflt (.int .i64))) : Int))) (v40.getD v42.toNat (dflt Y36)) ((v47.getD v36.toNat (dflt (.int .i64))) : Int)).1).2).1 : Int), ((((mixA (v47, v48, v49) (IntKind.i64.wrap (0 - ((((v40.getD v42.toNat (dflt Y36)).1 : List (Val (.int .i64))).getD v36.toNat (dflt (.int .i64))) : Int))) (v40.getD v42.toNat (dflt Y36)) ((v47.getD v36.toNat (dflt (.int .i64))) : Int)).1).2).2 : Bool))] : List (Val Y36))))))))))) else (k4 v46)
noncomputable def m53_l11 (N : Nat) (v12 : Int) (v13 : List (Val Y36)) (v14 : Int) (v16 : Int) (v17 : List (Val Y36)) (v18 : Int) (k2 : (List (Val Y36)) → Option (Vals [i32, i4])) : Nat → Int → (List (Val Y36)) → Option (Vals [i32, i4])
  | 0, _, _ => none
  | n + 1, v15, v19 => bif (decide (v15 < v14)) then (chk (0 ≤ v15 ∧ v15 < (v13.length : Int)) (chk (0 ≤ v12 ∧ v12 < (((v13.getD v15.toNat (dflt Y36)).1 : List (Val (.int .i64))).length : Int)) (bif (decide (((((v13.getD v15.toNat (dflt Y36)).1 : List (Val (.int .i64))).getD v12.toNat (dflt (.int .i64))) : Int) ≤ (0 : Int))) then (m53_l11 N v12 v13 v14 v16 v17 v18 k2 n (IntKind.i64.wrap (v15 + (1 : Int))) v19) else (m53_l15 N v12 v13 v14 v15 v17 (v17.length : Int) v16 v17 v18 ((v13.getD v15.toNat (dflt Y36)).1 : List (Val (.int .i64))) (((v13.getD v15.toNat (dflt Y36)).2).1 : Int) (((v13.getD v15.toNat (dflt Y36)).2).2 : Bool) (fun (v51 : List (Val Y36)) => m53_l11 N v12 v13 v14 v16 v17 v18 k2 n (IntKind.i64.wrap (v15 + (1 : Int))) v51) N (0 : Int) v19)))) else (k2 v19)
noncomputable def m53 (N : Nat) (v0 : Val Y32) (v1 : Int) : Option (Vals [i32, i4]) := bif (!((isCell v0) : Bool)) then (some (((0 : Int), ([] : List (Val Y36))), false, ())) else (bif (decide (v1 < (0 : Int))) then (some (((0 : Int), ([] : List (Val Y36))), false, ())) else (bif (decide ((v0.1 : Int) ≤ v1)) then (some (((0 : Int), ([] : List (Val Y36))), false, ())) else (m53_l5 N v1 (v0.2 : List (Val Y36)) ((v0.2 : List (Val Y36)).length : Int) (v0.1 : Int) (v0.2 : List (Val Y36)) (0 : Int) (fun (v11 : List (Val Y36)) => m53_l11 N v1 (v0.2 : List (Val Y36)) ((v0.2 : List (Val Y36)).length : Int) (v0.1 : Int) (v0.2 : List (Val Y36)) (0 : Int) (fun (v53 : List (Val Y36)) => chk (limV_pre (v0.1 : Int) v53) (some (((((limV (v0.1 : Int) v53).1).1 : Int), (((limV (v0.1 : Int) v53).1).2 : List (Val Y36))), ((limV (v0.1 : Int) v53).2 : Bool), ()))) N (0 : Int) v11) N (0 : Int) ([] : List (Val Y36)))))
def Γ53 : Gam := [(40, g40), (46, g46), (77, g77)]
theorem Γ53_40 : Gam.get Γ53 40 = some g40 := rfl
theorem Γ53_46 : Gam.get Γ53 46 = some g46 := rfl
theorem Γ53_77 : Gam.get Γ53 77 = some g77 := rfl
def nl53_5 : Nm := ⟨[false, true, true, false, true, false, true, false, false, false, false, false, false, false, false, false, false, false, false, false, false, false, false, false, false, false, false, false, false, false, false, true, true, true], [.und 6 0 36 Y36]⟩
theorem nl53_5_fix : nl53_5.fix = [.und 6 0 36 Y36] := rfl
theorem nl53_5_keep : nl53_5.keep = [false, true, true, false, true, false, true, false, false, false, false, false, false, false, false, false, false, false, false, false, false, false, false, false, false, false, false, false, false, false, false, true, true, true] := rfl
def nl53_15 : Nm := ⟨[false, true, true, false, true, false, true, false, false, false, true, false, false, false, false, false, false, false, false, false, false, false, false, false, false, false, false, false, false, false, false, false, false, false, false, false, false, false, false, false, false, false, false, false, false, false, false, false, false, true, true, true, false, false, false, false, false, false, false, false, false, false, true, true, true], []⟩
theorem nl53_15_fix : nl53_15.fix = [] := rfl
theorem nl53_15_keep : nl53_15.keep = [false, true, true, false, true, false, true, false, false, false, true, false, false, false, false, false, false, false, false, false, false, false, false, false, false, false, false, false, false, false, false, false, false, false, false, false, false, false, false, false, false, false, false, false, false, false, false, false, false, true, true, true, false, false, false, false, false, false, false, false, false, false, true, true, true] := rfl
def nl53_11 : Nm := ⟨[false, true, true, false, true, false, true, false, false, false, false, false, false, false, false, false, false, false, false, false, false, false, false, false, false, false, false, false, false, false, false, false, false, false, false, false, false, false, false, false, false, false, false, false, false, false, false, false, false, true, true, true], []⟩
theorem nl53_11_fix : nl53_11.fix = [] := rfl
theorem nl53_11_keep : nl53_11.keep = [false, true, true, false, true, false, true, false, false, false, false, false, false, false, false, false, false, false, false, false, false, false, false, false, false, false, false, false, false, false, false, false, false, false, false, false, false, false, false, false, false, false, false, false, false, false, false, false, false, true, true, true] := rfl
def nx53_0 : Nm := ⟨[false, true, true, false, true, false, true], []⟩
theorem nx53_0_fix : nx53_0.fix = [] := rfl
theorem nx53_0_keep : nx53_0.keep = [false, true, true, false, true, false, true] := rfl
def nx53_2 : Nm := ⟨[false, false, true, false, true, false, true], []⟩
theorem nx53_2_fix : nx53_2.fix = [] := rfl
theorem nx53_2_keep : nx53_2.keep = [false, false, true, false, true, false, true] := rfl
def nx53_4 : Nm := ⟨[false, true, true, false, true, false, true, false, false, false, false, false, false, false, false, false, false, false, false, false, false, false, false, false, false, false, false, false, false, false, false, false, false, false, false, false, false, false, false, false, false, false, false, false, false, false, false, false, false, true, true, true], []⟩
theorem nx53_4_fix : nx53_4.fix = [] := rfl
theorem nx53_4_keep : nx53_4.keep = [false, true, true, false, true, false, true, false, false, false, false, false, false, false, false, false, false, false, false, false, false, false, false, false, false, false, false, false, false, false, false, false, false, false, false, false, false, false, false, false, false, false, false, false, false, false, false, false, false, true, true, true] := rfl
def nr53_18 : Nm := ⟨[false, true, true, false, true, false, true, false, false, false, true, false, false, true, true, false, false, false, false, false, false, false, false, false, false, false, false, false, false, false, false, false, false, false, false, false, false, false, false, false, false, false, false, false, false, false, false, false, false, true, true, true, false, false, false, false, false, false, false, false, false, false, true, true, true], []⟩
theorem nr53_18_fix : nr53_18.fix = [] := rfl
theorem nr53_18_keep : nr53_18.keep = [false, true, true, false, true, false, true, false, false, false, true, false, false, true, true, false, false, false, false, false, false, false, false, false, false, false, false, false, false, false, false, false, false, false, false, false, false, false, false, false, false, false, false, false, false, false, false, false, false, true, true, true, false, false, false, false, false, false, false, false, false, false, true, true, true] := rfl
def tr53 : Nat → Tree := fun i => if i = 18 then .first 3 (.first 10 (.grow 0 (.grow 1 (.grow 2 (.grow 4 (.grow 5 (.first 6 (.grow 7 (.grow 8 (.grow 9 (.grow 11 (.grow 12 (.alt 13 (.first 14 (.first 15 (.first 16 (.alt 17 (.alt 18 (.quiet 19 .done) .stop) .stop)))) (.alt 17 (.alt 13 (.quiet 14 (.quiet 15 (.first 16 (.alt 18 (.quiet 19 .done) .stop)))) .stop) .stop)))))))))))))) else .done
def lp53 : Nat → Nm := fun i => if i = 5 then nl53_5 else if i = 15 then nl53_15 else if i = 11 then nl53_11 else ⟨[], []⟩
def jn53 : Nat → Option Jn := fun _ => none
def ex53 : Nat → Option Nm := fun i => if i = 0 then some nx53_0 else if i = 2 then some nx53_2 else if i = 4 then some nx53_4 else none
def rg53 : Nat → Option Nm := fun i => if i = 18 then some nr53_18 else none
theorem p53 : plansOk tr53 (Try.f53.body.getD .skip) = true := by kernel_rfl
def T53 (N : Nat) : Tab := { tr := tr53, lp := lp53, ex := ex53, rg := rg53, jn := jn53, fuel := N }
theorem T53_pins (N : Nat) : (T53 N).pins = false := rfl
theorem tb53 (N : Nat) : TbOk Try.prog (T53 N) := tb_none fun _ => rfl
theorem T53_tr (N i : Nat) : (T53 N).tr i = tr53 i := rfl
theorem T53_lp (N i : Nat) : (T53 N).lp i = lp53 i := rfl
theorem T53_ex (N i : Nat) : (T53 N).ex i = ex53 i := rfl
theorem T53_rg (N i : Nat) : (T53 N).rg i = rg53 i := rfl
theorem T53_jn (N i : Nat) : (T53 N).jn i = jn53 i := rfl
theorem T53_fuel (N : Nat) : (T53 N).fuel = N := rfl
noncomputable def c53_5 : Code := cut [true, true, true, false, true, true, true] (Try.f53.body.getD .skip)
theorem c53_5_at {N : Nat} {Q : X → St → Option (Vals [i32, i4])} {e : List LV} {h : List Blk} : runT tt Γ53 (T53 N) c53_5 Q ⟨e, h⟩ = runT tt Γ53 (T53 N) (cut [true, true, true, false, true, true, true] (Try.f53.body.getD .skip)) Q ⟨e, h⟩ := rfl
theorem r53_l5 (N : Nat) (v2 : Int) (v3 : List (Val Y36)) (v4 : Int) (v6 : Int) (v7 : List (Val Y36)) (v8 : Int) {k0 : (List (Val Y36)) → Option (Vals [i32, i4])} {Q : X → St → Option (Vals [i32, i4])} {c : Code} (hc : c = c53_5) (hret : ∀ st, Q .ret st = retS tt true [i32, i4] [.cell 4 32, .tmp 5] st) (h0 : ∀ (v10 : List (Val Y36)), Q (.exit 0) ⟨[u, .one (.int .i64 v2), .one (.ptr 0 0 0), u, .one (.ptr 1 0 0), u, .one (.own 2), u, u, u, u, u, u, u, u, u, u, u, u, u, u, u, u, u, u, u, u, u, u, u, u, u, u, u, u, u, u, u, u, u, u, u, u, u, u, u, u, u, u, u, u, u, u, u, u, u, u, u, u, u, u, u, u, u, u, u, u, u, u, u, u, u, u, u, u, u, u, u, u, u, u, u, u, u, u, u, u, u, u, u, u, u, u, u, u, u, u, u, u, u, u, u, u, u, u, u], [.box [.int .i64 v6, .sl 36 Y36 v7 3], .box [.int .i64 v8, .nils], .row 36 Y36 v10 false true 3]⟩ = k0 v10) : ∀ (n : Nat) (v5 : Int) (v9 : List (Val Y36)), loopR (runT tt Γ53 (T53 N) c) false nl53_5 Q n ⟨[u, .one (.int .i64 v2), .one (.ptr 0 0 0), u, .one (.ptr 1 0 0), u, .one (.own 2), u, u, u, u, u, u, u, u, u, u, u, u, u, u, u, u, u, u, u, u, u, u, u, u, .one (.sl 36 Y36 v3 3), .one (.int .i64 v4), .one (.int .i64 v5), u, u, u, u, u, u, u, u, u, u, u, u, u, u, u, u, u, u, u, u, u, u, u, u, u, u, u, u, u, u, u, u, u, u, u, u, u, u, u, u, u, u, u, u, u, u, u, u, u, u, u, u, u, u, u, u, u, u, u, u, u, u, u, u, u, u, u, u, u, u, u, u], [.box [.int .i64 v6, .sl 36 Y36 v7 3], .box [.int .i64 v8, .nils], .row 36 Y36 v9 false true 3]⟩ = m53_l5 N v2 v3 v4 v6 v7 v8 k0 n v5 v9 := by
  subst hc; intro n; induction n with
  | zero => intros; rfl
  | succ n ih =>
    intro v5 v9
    rw [loop_succ, c53_5_at, m53_l5]; unfold Try.f53
    simp (maxSteps := 10000000) -implicitDefEqProofs [T53_tr, tr53, T53_lp, lp53, T53_ex, ex53, T53_rg, rg53, T53_jn, jn53, T53_fuel, T53_pins, nl53_5_fix, nl53_5_keep, nl53_15_fix, nl53_15_keep, nl53_11_fix, nl53_11_keep, nx53_0_fix, nx53_0_keep, nx53_2_fix, nx53_2_keep, nx53_4_fix, nx53_4_keep, nr53_18_fix, nr53_18_keep, Γ53_40, Γ53_46, Γ53_77, g40, g46, g77, hret, h0, ih]
noncomputable def c53_15 : Code := cut [true, true, true, true, false, true, true, true, true, true, false, true, true, true, true, true, true] (Try.f53.body.getD .skip)
theorem c53_15_at {N : Nat} {Q : X → St → Option (Vals [i32, i4])} {e : List LV} {h : List Blk} : runT tt Γ53 (T53 N) c53_15 Q ⟨e, h⟩ = runT tt Γ53 (T53 N) (cut [true, true, true, true, false, true, true, true, true, true, false, true, true, true, true, true, true] (Try.f53.body.getD .skip)) Q ⟨e, h⟩ := rfl
theorem r53_l15 (N : Nat) (v36 : Int) (v37 : List (Val Y36)) (v38 : Int) (v39 : Int) (v40 : List (Val Y36)) (v41 : Int) (v43 : Int) (v44 : List (Val Y36)) (v45 : Int) (v47 : List (Val (.int .i64))) (v48 : Int) (v49 : Bool) {k4 : (List (Val Y36)) → Option (Vals [i32, i4])} {Q : X → St → Option (Vals [i32, i4])} {c : Code} (hc : c = c53_15) (hret : ∀ st, Q .ret st = retS tt true [i32, i4] [.cell 4 32, .tmp 5] st) (h4 : ∀ (v50 : List (Val Y36)), Q (.exit 4) ⟨[u, .one (.int .i64 v36), .one (.ptr 0 0 0), u, .one (.ptr 1 0 0), u, .one (.own 2), u, u, u, u, u, u, u, u, u, u, u, u, u, u, u, u, u, u, u, u, u, u, u, u, u, u, u, u, u, u, u, u, u, u, u, u, u, u, u, u, u, u, .one (.sl 36 Y36 v37 3), .one (.int .i64 v38), .one (.int .i64 v39), u, u, u, u, u, u, u, u, u, u, u, u, u, u, u, u, u, u, u, u, u, u, u, u, u, u, u, u, u, u, u, u, u, u, u, u, u, u, u, u, u, u, u, u, u, u, u, u, u, u, u, u, u, u], [.box [.int .i64 v43, .sl 36 Y36 v44 3], .box [.int .i64 v45, .nils], .row 36 Y36 v50 false true 3]⟩ = k4 v50) : ∀ (n : Nat) (v42 : Int) (v46 : List (Val Y36)), loopR (runT tt Γ53 (T53 N) c) false nl53_15 Q n ⟨[u, .one (.int .i64 v36), .one (.ptr 0 0 0), u, .one (.ptr 1 0 0), u, .one (.own 2), u, u, u, .one (.ptr 3 0 0), u, u, u, u, u, u, u, u, u, u, u, u, u, u, u, u, u, u, u, u, u, u, u, u, u, u, u, u, u, u, u, u, u, u, u, u, u, u, .one (.sl 36 Y36 v37 4), .one (.int .i64 v38), .one (.int .i64 v39), u, u, u, u, u, u, u, u, u, u, .one (.sl 36 Y36 v40 4), .one (.int .i64 v41), .one (.int .i64 v42), u, u, u, u, u, u, u, u, u, u, u, u, u, u, u, u, u, u, u, u, u, u, u, u, u, u, u, u, u, u, u, u, u, u, u, u, u, u, u, u, u], [.box [.int .i64 v43, .sl 36 Y36 v44 4], .box [.int .i64 v45, .nils], .row 36 Y36 v46 false true 4, .box [.sl 3 (.int .i64) v47 4, .int .i64 v48, .bool v49]]⟩ = m53_l15 N v36 v37 v38 v39 v40 v41 v43 v44 v45 v47 v48 v49 k4 n v42 v46 := by
  subst hc; intro n; induction n with
  | zero => intros; rfl
  | succ n ih =>
    intro v42 v46
    rw [loop_succ, c53_15_at, m53_l15]; unfold Try.f53
    simp (maxSteps := 10000000) -implicitDefEqProofs [T53_tr, tr53, T53_lp, lp53, T53_ex, ex53, T53_rg, rg53, T53_jn, jn53, T53_fuel, T53_pins, nl53_5_fix, nl53_5_keep, nl53_15_fix, nl53_15_keep, nl53_11_fix, nl53_11_keep, nx53_0_fix, nx53_0_keep, nx53_2_fix, nx53_2_keep, nx53_4_fix, nx53_4_keep, nr53_18_fix, nr53_18_keep, Γ53_40, Γ53_46, Γ53_77, g40, g46, g77, hret, h4, ih]
noncomputable def c53_11 : Code := cut [true, true, true, true, false, true, true, true] (Try.f53.body.getD .skip)
theorem c53_11_at {N : Nat} {Q : X → St → Option (Vals [i32, i4])} {e : List LV} {h : List Blk} : runT tt Γ53 (T53 N) c53_11 Q ⟨e, h⟩ = runT tt Γ53 (T53 N) (cut [true, true, true, true, false, true, true, true] (Try.f53.body.getD .skip)) Q ⟨e, h⟩ := rfl
theorem r53_l11 (N : Nat) (v12 : Int) (v13 : List (Val Y36)) (v14 : Int) (v16 : Int) (v17 : List (Val Y36)) (v18 : Int) {k2 : (List (Val Y36)) → Option (Vals [i32, i4])} {Q : X → St → Option (Vals [i32, i4])} {c : Code} (hc : c = c53_11) (hret : ∀ st, Q .ret st = retS tt true [i32, i4] [.cell 4 32, .tmp 5] st) (h2 : ∀ (v52 : List (Val Y36)), Q (.exit 2) ⟨[u, u, .one (.ptr 0 0 0), u, .one (.ptr 1 0 0), u, .one (.own 2), u, u, u, u, u, u, u, u, u, u, u, u, u, u, u, u, u, u, u, u, u, u, u, u, u, u, u, u, u, u, u, u, u, u, u, u, u, u, u, u, u, u, u, u, u, u, u, u, u, u, u, u, u, u, u, u, u, u, u, u, u, u, u, u, u, u, u, u, u, u, u, u, u, u, u, u, u, u, u, u, u, u, u, u, u, u, u, u, u, u, u, u, u, u, u, u, u, u, u], [.box [.int .i64 v16, .sl 36 Y36 v17 3], .box [.int .i64 v18, .nils], .row 36 Y36 v52 false true 3]⟩ = k2 v52) : ∀ (n : Nat) (v15 : Int) (v19 : List (Val Y36)), loopR (runT tt Γ53 (T53 N) c) false nl53_11 Q n ⟨[u, .one (.int .i64 v12), .one (.ptr 0 0 0), u, .one (.ptr 1 0 0), u, .one (.own 2), u, u, u, u, u, u, u, u, u, u, u, u, u, u, u, u, u, u, u, u, u, u, u, u, u, u, u, u, u, u, u, u, u, u, u, u, u, u, u, u, u, u, .one (.sl 36 Y36 v13 3), .one (.int .i64 v14), .one (.int .i64 v15), u, u, u, u, u, u, u, u, u, u, u, u, u, u, u, u, u, u, u, u, u, u, u, u, u, u, u, u, u, u, u, u, u, u, u, u, u, u, u, u, u, u, u, u, u, u, u, u, u, u, u, u, u, u], [.box [.int .i64 v16, .sl 36 Y36 v17 3], .box [.int .i64 v18, .nils], .row 36 Y36 v19 false true 3]⟩ = m53_l11 N v12 v13 v14 v16 v17 v18 k2 n v15 v19 := by
  subst hc; intro n; induction n with
  | zero => intros; rfl
  | succ n ih =>
    intro v15 v19
    rw [loop_succ, c53_11_at]; unfold Try.f53
    simp (maxSteps := 10000000) -implicitDefEqProofs [T53_tr, tr53, T53_lp, lp53, T53_ex, ex53, T53_rg, rg53, T53_jn, jn53, T53_fuel, T53_pins, nl53_5_fix, nl53_5_keep, nl53_15_fix, nl53_15_keep, nl53_11_fix, nl53_11_keep, nx53_0_fix, nx53_0_keep, nx53_2_fix, nx53_2_keep, nx53_4_fix, nx53_4_keep, nr53_18_fix, nr53_18_keep, Γ53_40, Γ53_46, Γ53_77, g40, g46, g77, hret, h2, ih]
    rewrite [r53_l15 (k4 := (fun (v51 : List (Val Y36)) => m53_l11 N v12 v13 v14 v16 v17 v18 k2 n (IntKind.i64.wrap (v15 + (1 : Int))) v51)) N _ _ _ _ _ _ _ _ _ _ _ _ ?_ ?_ ?_]
    · rewrite [m53_l11]; first | rfl | simp (maxSteps := 10000000) -implicitDefEqProofs [ih]
    · rfl
    · intro; simp only [seqR_ret, blockR_ret, retR_ret, retX_ret, hret]
    · intro v51; simp (maxSteps := 10000000) -implicitDefEqProofs [T53_tr, tr53, T53_lp, lp53, T53_ex, ex53, T53_rg, rg53, T53_jn, jn53, T53_fuel, T53_pins, nl53_5_fix, nl53_5_keep, nl53_15_fix, nl53_15_keep, nl53_11_fix, nl53_11_keep, nx53_0_fix, nx53_0_keep, nx53_2_fix, nx53_2_keep, nx53_4_fix, nx53_4_keep, nr53_18_fix, nr53_18_keep, Γ53_40, Γ53_46, Γ53_77, g40, g46, g77, hret, h2, ih]
theorem run53 (N : Nat) (v0 : Val Y32) (v1 : Int) : runT tt Γ53 (T53 N) (Try.f53.body.getD .skip) (retR tt true [i32, i4] [.cell 4 32, .tmp 5]) (entryP [i32, i3] 106 (v0, v1, ())) = m53 N v0 v1 := by
  unfold Try.f53
  simp (maxSteps := 10000000) -implicitDefEqProofs [T53_tr, tr53, T53_lp, lp53, T53_ex, ex53, T53_rg, rg53, T53_jn, jn53, T53_fuel, T53_pins, nl53_5_fix, nl53_5_keep, nl53_15_fix, nl53_15_keep, nl53_11_fix, nl53_11_keep, nx53_0_fix, nx53_0_keep, nx53_2_fix, nx53_2_keep, nx53_4_fix, nx53_4_keep, nr53_18_fix, nr53_18_keep, Γ53_40, Γ53_46, Γ53_77, g40, g46, g77]
  rewrite [r53_l5 (k0 := (fun (v11 : List (Val Y36)) => m53_l11 N v1 (v0.2 : List (Val Y36)) ((v0.2 : List (Val Y36)).length : Int) (v0.1 : Int) (v0.2 : List (Val Y36)) (0 : Int) (fun (v53 : List (Val Y36)) => chk (limV_pre (v0.1 : Int) v53) (some (((((limV (v0.1 : Int) v53).1).1 : Int), (((limV (v0.1 : Int) v53).1).2 : List (Val Y36))), ((limV (v0.1 : Int) v53).2 : Bool), ()))) N (0 : Int) v11)) N _ _ _ _ _ _ ?_ ?_ ?_]
  · rewrite [m53]; first | rfl | simp (maxSteps := 10000000) -implicitDefEqProofs []
  · rfl
  · intro; simp only [seqR_ret, blockR_ret, retR_ret, retX_ret]
  · intro v11; simp (maxSteps := 10000000) -implicitDefEqProofs [T53_tr, tr53, T53_lp, lp53, T53_ex, ex53, T53_rg, rg53, T53_jn, jn53, T53_fuel, T53_pins, nl53_5_fix, nl53_5_keep, nl53_15_fix, nl53_15_keep, nl53_11_fix, nl53_11_keep, nx53_0_fix, nx53_0_keep, nx53_2_fix, nx53_2_keep, nx53_4_fix, nx53_4_keep, nr53_18_fix, nr53_18_keep, Γ53_40, Γ53_46, Γ53_77, g40, g46, g77]
    rewrite [r53_l11 (k2 := (fun (v53 : List (Val Y36)) => chk (limV_pre (v0.1 : Int) v53) (some (((((limV (v0.1 : Int) v53).1).1 : Int), (((limV (v0.1 : Int) v53).1).2 : List (Val Y36))), ((limV (v0.1 : Int) v53).2 : Bool), ())))) N _ _ _ _ _ _ ?_ ?_ ?_]
    · first | rfl | simp (maxSteps := 10000000) -implicitDefEqProofs []
    · rfl
    · intro; simp only [seqR_ret, blockR_ret, retR_ret, retX_ret]
    · intro v53; simp (maxSteps := 10000000) -implicitDefEqProofs [T53_tr, tr53, T53_lp, lp53, T53_ex, ex53, T53_rg, rg53, T53_jn, jn53, T53_fuel, T53_pins, nl53_5_fix, nl53_5_keep, nl53_15_fix, nl53_15_keep, nl53_11_fix, nl53_11_keep, nx53_0_fix, nx53_0_keep, nx53_2_fix, nx53_2_keep, nx53_4_fix, nx53_4_keep, nr53_18_fix, nr53_18_keep, Γ53_40, Γ53_46, Γ53_77, g40, g46, g77]
-- spec.l3Drop
noncomputable def m50_l3 (N : Nat) (v2 : Int) (v4 : Int) (v5 : List (Val Y36)) (v6 : Int) (k0 : (List (Val Y36)) → Option (Vals [i32, i4])) : Nat → Int → (List (Val Y36)) → Option (Vals [i32, i4])
  | 0, _, _ => none
  | n + 1, v3, v7 => bif (decide (v3 < (v5.length : Int))) then (chk (0 ≤ v3 ∧ v3 < (v5.length : Int)) (chk (0 ≤ v2 ∧ v2 < (((v5.getD v3.toNat (dflt Y36)).1 : List (Val (.int .i64))).length : Int)) (bif (decide (((((v5.getD v3.toNat (dflt Y36)).1 : List (Val (.int .i64))).getD v2.toNat (dflt (.int .i64))) : Int) = (0 : Int))) then (chk (0 ≤ v3 ∧ v3 < (v5.length : Int)) (chk (v7.length + ([(v5.getD v3.toNat (dflt Y36))] : List (Val Y36)).length ≤ 1048576) (m50_l3 N v2 v4 v5 v6 k0 n (IntKind.i64.wrap (v3 + (1 : Int))) (v7 ++ ([(v5.getD v3.toNat (dflt Y36))] : List (Val Y36)))))) else (m50_l3 N v2 v4 v5 v6 k0 n (IntKind.i64.wrap (v3 + (1 : Int))) v7)))) else (k0 v7)
noncomputable def m50_l11 (N : Nat) (v25 : Int) (v26 : Int) (v28 : Int) (v29 : List (Val Y36)) (v30 : Int) (k4 : (List (Val Y36)) → Option (Vals [i32, i4])) : Nat → Int → (List (Val Y36)) → Option (Vals [i32, i4])
  | 0, _, _ => none
  | n + 1, v27, v31 => bif (decide (v27 < (v29.length : Int))) then (chk (0 ≤ v26 ∧ v26 < (v29.length : Int)) (chk (0 ≤ v25 ∧ v25 < (((v29.getD v26.toNat (dflt Y36)).1 : List (Val (.int .i64))).length : Int)) (chk (0 ≤ v27 ∧ v27 < (v29.length : Int)) (chk (0 ≤ v25 ∧ v25 < (((v29.getD v27.toNat (dflt Y36)).1 : List (Val (.int .i64))).length : Int)) (bif (decide (((((v29.getD v26.toNat (dflt Y36)).1 : List (Val (.int .i64))).getD v25.toNat (dflt (.int .i64))) : Int) ≤ (0 : Int))) then (m50_l11 N v25 v26 v28 v29 v30 k4 n (IntKind.i64.wrap (v27 + (1 : Int))) v31) else (bif (decide ((0 : Int) ≤ ((((v29.getD v27.toNat (dflt Y36)).1 : List (Val (.int .i64))).getD v25.toNat (dflt (.int .i64))) : Int))) then (m50_l11 N v25 v26 v28 v29 v30 k4 n (IntKind.i64.wrap (v27 + (1 : Int))) v31) else (chk (0 ≤ v26 ∧ v26 < (v29.length : Int)) (chk (0 ≤ v27 ∧ v27 < (v29.length : Int)) (chk (mixA_pre (v29.getD v26.toNat (dflt Y36)) (IntKind.i64.wrap (0 - ((((v29.getD v27.toNat (dflt Y36)).1 : List (Val (.int .i64))).getD v25.toNat (dflt (.int .i64))) : Int))) (v29.getD v27.toNat (dflt Y36)) ((((v29.getD v26.toNat (dflt Y36)).1 : List (Val (.int .i64))).getD v25.toNat (dflt (.int .i64))) : Int)) (bif (!((mixA (v29.getD v26.toNat (dflt Y36)) (IntKind.i64.wrap (0 - ((((v29.getD v27.toNat (dflt Y36)).1 : List (Val (.int .i64))).getD v25.toNat (dflt (.int .i64))) : Int))) (v29.getD v27.toNat (dflt Y36)) ((((v29.getD v26.toNat (dflt Y36)).1 : List (Val (.int .i64))).getD v25.toNat (dflt (.int .i64))) : Int)).2 : Bool)) then (some (((0 : Int), ([] : List (Val Y36))), false, ())) else (chk (v31.length + ([((((mixA (v29.getD v26.toNat (dflt Y36)) (IntKind.i64.wrap (0 - ((((v29.getD v27.toNat (dflt Y36)).1 : List (Val (.int .i64))).getD v25.toNat (dflt (.int .i64))) : Int))) (v29.getD v27.toNat (dflt Y36)) ((((v29.getD v26.toNat (dflt Y36)).1 : List (Val (.int .i64))).getD v25.toNat (dflt (.int .i64))) : Int)).1).1 : List (Val (.int .i64))), ((((mixA (v29.getD v26.toNat (dflt Y36)) (IntKind.i64.wrap (0 - ((((v29.getD v27.toNat (dflt Y36)).1 : List (Val (.int .i64))).getD v25.toNat (dflt (.int .i64))) : Int))) (v29.getD v27.toNat (dflt Y36)) ((((v29.getD v26.toNat (dflt Y36)).1 : List (Val (.int .i64))).getD v25.toNat (dflt (.int .i64))) : Int)).1).2).1 : Int), ((((mixA (v29.getD v26.toNat (dflt Y36)) (IntKind.i64.wrap (0 - ((((v29.getD v27.toNat (dflt Y36)).1 : List (Val (.int .i64))).getD v25.toNat (dflt (.int .i64))) : Int))) (v29.getD v27.toNat (dflt Y36)) ((((v29.getD v26.toNat (dflt Y36)).1 : List (Val (.int .i64))).getD v25.toNat (dflt (.int .i64))) : Int)).1).2).2 : Bool))] : List (Val Y36)).length ≤ 1048576) (m50_l11 N v25 v26 v28 v29 v30 k4 n (IntKind.i64.wrap (v27 + (1 : Int))) (v31 ++ ([((((mixA (v29.getD v26.toNat (dflt Y36)) (IntKind.i64.wrap (0 - ((((v29.getD v27.toNat (dflt Y36)).1 : List (Val (.int .i64))).getD v25.toNat (dflt (.int .i64))) : Int))) (v29.getD v27.toNat (dflt Y36)) ((((v29.getD v26.toNat (dflt Y36)).1 : List (Val (.int .i64))).getD v25.toNat (dflt (.int .i64))) : Int)).1).1 : List (Val (.int .i64))), ((((mixA (v29.getD v26.toNat (dflt Y36)) (IntKind.i64.wrap (0 - ((((v29.getD v27.toNat (dflt Y36)).1 : List (Val (.int .i64))).getD v25.toNat (dflt (.int .i64))) : Int))) (v29.getD v27.toNat (dflt Y36)) ((((v29.getD v26.toNat (dflt Y36)).1 : List (Val (.int .i64))).getD v25.toNat (dflt (.int .i64))) : Int)).1).2).1 : Int), ((((mixA (v29.getD v26.toNat (dflt Y36)) (IntKind.i64.wrap (0 - ((((v29.getD v27.toNat (dflt Y36)).1 : List (Val (.int .i64))).getD v25.toNat (dflt (.int .i64))) : Int))) (v29.getD v27.toNat (dflt Y36)) ((((v29.getD v26.toNat (dflt Y36)).1 : List (Val (.int .i64))).getD v25.toNat (dflt (.int .i64))) : Int)).1).2).2 : Bool))] : List (Val Y36))))))))))))))) else (k4 v31)
noncomputable def m50_l8 (N : Nat) (v10 : Int) (v12 : Int) (v13 : List (Val Y36)) (v14 : Int) (k2 : (List (Val Y36)) → Option (Vals [i32, i4])) : Nat → Int → (List (Val Y36)) → Option (Vals [i32, i4])
  | 0, _, _ => none
  | n + 1, v11, v15 => bif (decide (v11 < (v13.length : Int))) then (m50_l11 N v10 v11 v12 v13 v14 (fun (v33 : List (Val Y36)) => m50_l8 N v10 v12 v13 v14 k2 n (IntKind.i64.wrap (v11 + (1 : Int))) v33) N (0 : Int) v15) else (k2 v15)
noncomputable def m50 (N : Nat) (v0 : Val Y32) (v1 : Int) : Option (Vals [i32, i4]) := m50_l3 N v1 (v0.1 : Int) (v0.2 : List (Val Y36)) (0 : Int) (fun (v9 : List (Val Y36)) => m50_l8 N v1 (v0.1 : Int) (v0.2 : List (Val Y36)) (0 : Int) (fun (v35 : List (Val Y36)) => chk (nrmV_pre (v0.1 : Int) v35) (bif (decide ((16 : Int) < (((nrmV (v0.1 : Int) v35).2 : List (Val Y36)).length : Int))) then (some (((0 : Int), ([] : List (Val Y36))), false, ())) else (some ((nrmV (v0.1 : Int) v35), true, ())))) N (0 : Int) v9) N (0 : Int) ([] : List (Val Y36))
def Γ50 : Gam := [(44, g44), (68, g68)]
theorem Γ50_44 : Gam.get Γ50 44 = some g44 := rfl
theorem Γ50_68 : Gam.get Γ50 68 = some g68 := rfl
def nl50_3 : Nm := ⟨[false, true, true, false, true, false, true, true], [.und 6 0 36 Y36]⟩
theorem nl50_3_fix : nl50_3.fix = [.und 6 0 36 Y36] := rfl
theorem nl50_3_keep : nl50_3.keep = [false, true, true, false, true, false, true, true] := rfl
def nl50_11 : Nm := ⟨[false, true, true, false, true, false, true, false, true, true], []⟩
theorem nl50_11_fix : nl50_11.fix = [] := rfl
theorem nl50_11_keep : nl50_11.keep = [false, true, true, false, true, false, true, false, true, true] := rfl
def nl50_8 : Nm := ⟨[false, true, true, false, true, false, true, false, true], []⟩
theorem nl50_8_fix : nl50_8.fix = [] := rfl
theorem nl50_8_keep : nl50_8.keep = [false, true, true, false, true, false, true, false, true] := rfl
def nx50_0 : Nm := ⟨[false, true, true, false, true, false, true], []⟩
theorem nx50_0_fix : nx50_0.fix = [] := rfl
theorem nx50_0_keep : nx50_0.keep = [false, true, true, false, true, false, true] := rfl
def nx50_2 : Nm := ⟨[false, false, true, false, true, false, true], []⟩
theorem nx50_2_fix : nx50_2.fix = [] := rfl
theorem nx50_2_keep : nx50_2.keep = [false, false, true, false, true, false, true] := rfl
def nx50_4 : Nm := ⟨[false, true, true, false, true, false, true, false, true], []⟩
theorem nx50_4_fix : nx50_4.fix = [] := rfl
theorem nx50_4_keep : nx50_4.keep = [false, true, true, false, true, false, true, false, true] := rfl
def nr50_16 : Nm := ⟨[false, true, true, false, true, false, true, false, true, true, false, false, true, true], []⟩
theorem nr50_16_fix : nr50_16.fix = [] := rfl
theorem nr50_16_keep : nr50_16.keep = [false, true, true, false, true, false, true, false, true, true, false, false, true, true] := rfl
def tr50 : Nat → Tree := fun i => if i = 16 then .first 2 (.first 5 (.first 6 (.first 9 (.first 12 (.grow 0 (.grow 1 (.grow 3 (.grow 4 (.grow 7 (.grow 8 (.grow 10 (.grow 11 (.alt 13 (.first 14 (.first 15 (.first 16 (.alt 17 (.alt 18 (.quiet 19 .done) .stop) .stop)))) (.alt 17 (.alt 13 (.quiet 14 (.quiet 15 (.first 16 (.alt 18 (.quiet 19 .done) .stop)))) .stop) .stop)))))))))))))) else .done
def lp50 : Nat → Nm := fun i => if i = 3 then nl50_3 else if i = 11 then nl50_11 else if i = 8 then nl50_8 else ⟨[], []⟩
def jn50 : Nat → Option Jn := fun _ => none
def ex50 : Nat → Option Nm := fun i => if i = 0 then some nx50_0 else if i = 2 then some nx50_2 else if i = 4 then some nx50_4 else none
def rg50 : Nat → Option Nm := fun i => if i = 16 then some nr50_16 else none
theorem p50 : plansOk tr50 (Try.f50.body.getD .skip) = true := by kernel_rfl
def T50 (N : Nat) : Tab := { tr := tr50, lp := lp50, ex := ex50, rg := rg50, jn := jn50, fuel := N }
theorem T50_pins (N : Nat) : (T50 N).pins = false := rfl
theorem tb50 (N : Nat) : TbOk Try.prog (T50 N) := tb_none fun _ => rfl
theorem T50_tr (N i : Nat) : (T50 N).tr i = tr50 i := rfl
theorem T50_lp (N i : Nat) : (T50 N).lp i = lp50 i := rfl
theorem T50_ex (N i : Nat) : (T50 N).ex i = ex50 i := rfl
theorem T50_rg (N i : Nat) : (T50 N).rg i = rg50 i := rfl
theorem T50_jn (N i : Nat) : (T50 N).jn i = jn50 i := rfl
theorem T50_fuel (N : Nat) : (T50 N).fuel = N := rfl
noncomputable def c50_3 : Code := cut [true, true, false, true, true, true] (Try.f50.body.getD .skip)
theorem c50_3_at {N : Nat} {Q : X → St → Option (Vals [i32, i4])} {e : List LV} {h : List Blk} : runT tt Γ50 (T50 N) c50_3 Q ⟨e, h⟩ = runT tt Γ50 (T50 N) (cut [true, true, false, true, true, true] (Try.f50.body.getD .skip)) Q ⟨e, h⟩ := rfl
theorem r50_l3 (N : Nat) (v2 : Int) (v4 : Int) (v5 : List (Val Y36)) (v6 : Int) {k0 : (List (Val Y36)) → Option (Vals [i32, i4])} {Q : X → St → Option (Vals [i32, i4])} {c : Code} (hc : c = c50_3) (hret : ∀ st, Q .ret st = retS tt false [i32, i4] [.cell 4 32, .tmp 5] st) (h0 : ∀ (v8 : List (Val Y36)), Q (.exit 0) ⟨[u, .one (.int .i64 v2), .one (.ptr 0 0 0), u, .one (.ptr 1 0 0), u, .one (.own 2), u, u, u, u, u, u, u, u, u, u, u, u, u, u, u, u, u, u, u, u, u, u, u, u, u, u, u, u, u, u, u, u, u, u, u, u, u, u, u, u, u, u, u, u, u, u, u, u, u, u, u, u, u, u, u, u, u, u, u, u, u, u, u, u, u, u, u, u, u, u, u, u, u, u, u, u, u, u, u, u, u, u, u, u, u, u, u, u, u, u, u, u, u, u, u, u, u, u, u, u, u, u, u, u, u, u], [.box [.int .i64 v4, .sl 36 Y36 v5 3], .box [.int .i64 v6, .nils], .row 36 Y36 v8 false true 3]⟩ = k0 v8) : ∀ (n : Nat) (v3 : Int) (v7 : List (Val Y36)), loopR (runT tt Γ50 (T50 N) c) false nl50_3 Q n ⟨[u, .one (.int .i64 v2), .one (.ptr 0 0 0), u, .one (.ptr 1 0 0), u, .one (.own 2), .one (.int .i64 v3), u, u, u, u, u, u, u, u, u, u, u, u, u, u, u, u, u, u, u, u, u, u, u, u, u, u, u, u, u, u, u, u, u, u, u, u, u, u, u, u, u, u, u, u, u, u, u, u, u, u, u, u, u, u, u, u, u, u, u, u, u, u, u, u, u, u, u, u, u, u, u, u, u, u, u, u, u, u, u, u, u, u, u, u, u, u, u, u, u, u, u, u, u, u, u, u, u, u, u, u, u, u, u, u, u], [.box [.int .i64 v4, .sl 36 Y36 v5 3], .box [.int .i64 v6, .nils], .row 36 Y36 v7 false true 3]⟩ = m50_l3 N v2 v4 v5 v6 k0 n v3 v7 := by
  subst hc; intro n; induction n with
  | zero => intros; rfl
  | succ n ih =>
    intro v3 v7
    rw [loop_succ, c50_3_at, m50_l3]; unfold Try.f50
    simp (maxSteps := 10000000) -implicitDefEqProofs [T50_tr, tr50, T50_lp, lp50, T50_ex, ex50, T50_rg, rg50, T50_jn, jn50, T50_fuel, T50_pins, nl50_3_fix, nl50_3_keep, nl50_11_fix, nl50_11_keep, nl50_8_fix, nl50_8_keep, nx50_0_fix, nx50_0_keep, nx50_2_fix, nx50_2_keep, nx50_4_fix, nx50_4_keep, nr50_16_fix, nr50_16_keep, Γ50_44, Γ50_68, g44, g68, hret, h0, ih]
noncomputable def c50_11 : Code := cut [true, true, true, false, true, true, true, true, false, true, true, true, true] (Try.f50.body.getD .skip)
theorem c50_11_at {N : Nat} {Q : X → St → Option (Vals [i32, i4])} {e : List LV} {h : List Blk} : runT tt Γ50 (T50 N) c50_11 Q ⟨e, h⟩ = runT tt Γ50 (T50 N) (cut [true, true, true, false, true, true, true, true, false, true, true, true, true] (Try.f50.body.getD .skip)) Q ⟨e, h⟩ := rfl
theorem r50_l11 (N : Nat) (v25 : Int) (v26 : Int) (v28 : Int) (v29 : List (Val Y36)) (v30 : Int) {k4 : (List (Val Y36)) → Option (Vals [i32, i4])} {Q : X → St → Option (Vals [i32, i4])} {c : Code} (hc : c = c50_11) (hret : ∀ st, Q .ret st = retS tt false [i32, i4] [.cell 4 32, .tmp 5] st) (h4 : ∀ (v32 : List (Val Y36)), Q (.exit 4) ⟨[u, .one (.int .i64 v25), .one (.ptr 0 0 0), u, .one (.ptr 1 0 0), u, .one (.own 2), u, .one (.int .i64 v26), u, u, u, u, u, u, u, u, u, u, u, u, u, u, u, u, u, u, u, u, u, u, u, u, u, u, u, u, u, u, u, u, u, u, u, u, u, u, u, u, u, u, u, u, u, u, u, u, u, u, u, u, u, u, u, u, u, u, u, u, u, u, u, u, u, u, u, u, u, u, u, u, u, u, u, u, u, u, u, u, u, u, u, u, u, u, u, u, u, u, u, u, u, u, u, u, u, u, u, u, u, u, u, u], [.box [.int .i64 v28, .sl 36 Y36 v29 3], .box [.int .i64 v30, .nils], .row 36 Y36 v32 false true 3]⟩ = k4 v32) : ∀ (n : Nat) (v27 : Int) (v31 : List (Val Y36)), loopR (runT tt Γ50 (T50 N) c) false nl50_11 Q n ⟨[u, .one (.int .i64 v25), .one (.ptr 0 0 0), u, .one (.ptr 1 0 0), u, .one (.own 2), u, .one (.int .i64 v26), .one (.int .i64 v27), u, u, u, u, u, u, u, u, u, u, u, u, u, u, u, u, u, u, u, u, u, u, u, u, u, u, u, u, u, u, u, u, u, u, u, u, u, u, u, u, u, u, u, u, u, u, u, u, u, u, u, u, u, u, u, u, u, u, u, u, u, u, u, u, u, u, u, u, u, u, u, u, u, u, u, u, u, u, u, u, u, u, u, u, u, u, u, u, u, u, u, u, u, u, u, u, u, u, u, u, u, u, u], [.box [.int .i64 v28, .sl 36 Y36 v29 3], .box [.int .i64 v30, .nils], .row 36 Y36 v31 false true 3]⟩ = m50_l11 N v25 v26 v28 v29 v30 k4 n v27 v31 := by
  subst hc; intro n; induction n with
  | zero => intros; rfl
  | succ n ih =>
    intro v27 v31
    rw [loop_succ, c50_11_at, m50_l11]; unfold Try.f50
    simp (maxSteps := 10000000) -implicitDefEqProofs [T50_tr, tr50, T50_lp, lp50, T50_ex, ex50, T50_rg, rg50, T50_jn, jn50, T50_fuel, T50_pins, nl50_3_fix, nl50_3_keep, nl50_11_fix, nl50_11_keep, nl50_8_fix, nl50_8_keep, nx50_0_fix, nx50_0_keep, nx50_2_fix, nx50_2_keep, nx50_4_fix, nx50_4_keep, nr50_16_fix, nr50_16_keep, Γ50_44, Γ50_68, g44, g68, hret, h4, ih]
noncomputable def c50_8 : Code := cut [true, true, true, false, true, true, true] (Try.f50.body.getD .skip)
theorem c50_8_at {N : Nat} {Q : X → St → Option (Vals [i32, i4])} {e : List LV} {h : List Blk} : runT tt Γ50 (T50 N) c50_8 Q ⟨e, h⟩ = runT tt Γ50 (T50 N) (cut [true, true, true, false, true, true, true] (Try.f50.body.getD .skip)) Q ⟨e, h⟩ := rfl
theorem r50_l8 (N : Nat) (v10 : Int) (v12 : Int) (v13 : List (Val Y36)) (v14 : Int) {k2 : (List (Val Y36)) → Option (Vals [i32, i4])} {Q : X → St → Option (Vals [i32, i4])} {c : Code} (hc : c = c50_8) (hret : ∀ st, Q .ret st = retS tt false [i32, i4] [.cell 4 32, .tmp 5] st) (h2 : ∀ (v34 : List (Val Y36)), Q (.exit 2) ⟨[u, u, .one (.ptr 0 0 0), u, .one (.ptr 1 0 0), u, .one (.own 2), u, u, u, u, u, u, u, u, u, u, u, u, u, u, u, u, u, u, u, u, u, u, u, u, u, u, u, u, u, u, u, u, u, u, u, u, u, u, u, u, u, u, u, u, u, u, u, u, u, u, u, u, u, u, u, u, u, u, u, u, u, u, u, u, u, u, u, u, u, u, u, u, u, u, u, u, u, u, u, u, u, u, u, u, u, u, u, u, u, u, u, u, u, u, u, u, u, u, u, u, u, u, u, u, u, u], [.box [.int .i64 v12, .sl 36 Y36 v13 3], .box [.int .i64 v14, .nils], .row 36 Y36 v34 false true 3]⟩ = k2 v34) : ∀ (n : Nat) (v11 : Int) (v15 : List (Val Y36)), loopR (runT tt Γ50 (T50 N) c) false nl50_8 Q n ⟨[u, .one (.int .i64 v10), .one (.ptr 0 0 0), u, .one (.ptr 1 0 0), u, .one (.own 2), u, .one (.int .i64 v11), u, u, u, u, u, u, u, u, u, u, u, u, u, u, u, u, u, u, u, u, u, u, u, u, u, u, u, u, u, u, u, u, u, u, u, u, u, u, u, u, u, u, u, u, u, u, u, u, u, u, u, u, u, u, u, u, u, u, u, u, u, u, u, u, u, u, u, u, u, u, u, u, u, u, u, u, u, u, u, u, u, u, u, u, u, u, u, u, u, u, u, u, u, u, u, u, u, u, u, u, u, u, u, u], [.box [.int .i64 v12, .sl 36 Y36 v13 3], .box [.int .i64 v14, .nils], .row 36 Y36 v15 false true 3]⟩ = m50_l8 N v10 v12 v13 v14 k2 n v11 v15 := by
  subst hc; intro n; induction n with
  | zero => intros; rfl
  | succ n ih =>
    intro v11 v15
    rw [loop_succ, c50_8_at]; unfold Try.f50
    simp (maxSteps := 10000000) -implicitDefEqProofs [T50_tr, tr50, T50_lp, lp50, T50_ex, ex50, T50_rg, rg50, T50_jn, jn50, T50_fuel, T50_pins, nl50_3_fix, nl50_3_keep, nl50_11_fix, nl50_11_keep, nl50_8_fix, nl50_8_keep, nx50_0_fix, nx50_0_keep, nx50_2_fix, nx50_2_keep, nx50_4_fix, nx50_4_keep, nr50_16_fix, nr50_16_keep, Γ50_44, Γ50_68, g44, g68, hret, h2, ih]
    rewrite [r50_l11 (k4 := (fun (v33 : List (Val Y36)) => m50_l8 N v10 v12 v13 v14 k2 n (IntKind.i64.wrap (v11 + (1 : Int))) v33)) N _ _ _ _ _ ?_ ?_ ?_]
    · rewrite [m50_l8]; first | rfl | simp (maxSteps := 10000000) -implicitDefEqProofs [ih]
    · rfl
    · intro; simp only [seqR_ret, blockR_ret, retR_ret, retX_ret, hret]
    · intro v33; simp (maxSteps := 10000000) -implicitDefEqProofs [T50_tr, tr50, T50_lp, lp50, T50_ex, ex50, T50_rg, rg50, T50_jn, jn50, T50_fuel, T50_pins, nl50_3_fix, nl50_3_keep, nl50_11_fix, nl50_11_keep, nl50_8_fix, nl50_8_keep, nx50_0_fix, nx50_0_keep, nx50_2_fix, nx50_2_keep, nx50_4_fix, nx50_4_keep, nr50_16_fix, nr50_16_keep, Γ50_44, Γ50_68, g44, g68, hret, h2, ih]
theorem run50 (N : Nat) (v0 : Val Y32) (v1 : Int) : runT tt Γ50 (T50 N) (Try.f50.body.getD .skip) (retR tt false [i32, i4] [.cell 4 32, .tmp 5]) (entryP [i32, i3] 113 (v0, v1, ())) = m50 N v0 v1 := by
  unfold Try.f50
  simp (maxSteps := 10000000) -implicitDefEqProofs [T50_tr, tr50, T50_lp, lp50, T50_ex, ex50, T50_rg, rg50, T50_jn, jn50, T50_fuel, T50_pins, nl50_3_fix, nl50_3_keep, nl50_11_fix, nl50_11_keep, nl50_8_fix, nl50_8_keep, nx50_0_fix, nx50_0_keep, nx50_2_fix, nx50_2_keep, nx50_4_fix, nx50_4_keep, nr50_16_fix, nr50_16_keep, Γ50_44, Γ50_68, g44, g68]
  rewrite [r50_l3 (k0 := (fun (v9 : List (Val Y36)) => m50_l8 N v1 (v0.1 : Int) (v0.2 : List (Val Y36)) (0 : Int) (fun (v35 : List (Val Y36)) => chk (nrmV_pre (v0.1 : Int) v35) (bif (decide ((16 : Int) < (((nrmV (v0.1 : Int) v35).2 : List (Val Y36)).length : Int))) then (some (((0 : Int), ([] : List (Val Y36))), false, ())) else (some ((nrmV (v0.1 : Int) v35), true, ())))) N (0 : Int) v9)) N _ _ _ _ ?_ ?_ ?_]
  · rewrite [m50]; first | rfl | simp (maxSteps := 10000000) -implicitDefEqProofs []
  · rfl
  · intro; simp only [seqR_ret, blockR_ret, retR_ret, retX_ret]
  · intro v9; simp (maxSteps := 10000000) -implicitDefEqProofs [T50_tr, tr50, T50_lp, lp50, T50_ex, ex50, T50_rg, rg50, T50_jn, jn50, T50_fuel, T50_pins, nl50_3_fix, nl50_3_keep, nl50_11_fix, nl50_11_keep, nl50_8_fix, nl50_8_keep, nx50_0_fix, nx50_0_keep, nx50_2_fix, nx50_2_keep, nx50_4_fix, nx50_4_keep, nr50_16_fix, nr50_16_keep, Γ50_44, Γ50_68, g44, g68]
    rewrite [r50_l8 (k2 := (fun (v35 : List (Val Y36)) => chk (nrmV_pre (v0.1 : Int) v35) (bif (decide ((16 : Int) < (((nrmV (v0.1 : Int) v35).2 : List (Val Y36)).length : Int))) then (some (((0 : Int), ([] : List (Val Y36))), false, ())) else (some ((nrmV (v0.1 : Int) v35), true, ()))))) N _ _ _ _ ?_ ?_ ?_]
    · first | rfl | simp (maxSteps := 10000000) -implicitDefEqProofs []
    · rfl
    · intro; simp only [seqR_ret, blockR_ret, retR_ret, retX_ret]
    · intro v35; simp (maxSteps := 10000000) -implicitDefEqProofs [T50_tr, tr50, T50_lp, lp50, T50_ex, ex50, T50_rg, rg50, T50_jn, jn50, T50_fuel, T50_pins, nl50_3_fix, nl50_3_keep, nl50_11_fix, nl50_11_keep, nl50_8_fix, nl50_8_keep, nx50_0_fix, nx50_0_keep, nx50_2_fix, nx50_2_keep, nx50_4_fix, nx50_4_keep, nr50_16_fix, nr50_16_keep, Γ50_44, Γ50_68, g44, g68]
/-- An atom of so many variables. -/
def okD (d : Int) (a : Val Y36) : Prop := okA a ∧ (List.length (α := Int) a.1 : Int) = d
abbrev noCell : Option (Vals [i32, i4]) := some (((0 : Int), ([] : List (Val Y36))), false, ())
theorem cfV_eq (v : Int) (a : Val Y36) : List.getD (α := Val (.int .i64)) a.1 v.toNat (dflt (.int .i64)) = cfV v a := rfl
theorem cfV_in {v : Int} {a : Val Y36} (h : okA a) : -400000000 ≤ cfV v a ∧ cfV v a ≤ 400000000 := by
  unfold cfV
  by_cases hv : v.toNat < List.length (α := Int) a.1
  · rw [List.getD_eq_getElem?_getD, List.getElem?_eq_getElem hv]
    exact okA_all h _ (List.getElem_mem hv)
  · rw [List.getD_eq_getElem?_getD, List.getElem?_eq_none (by omega)]
    exact ⟨by decide, by decide⟩
theorem mkAtom_okD {co : List Int} {k : Int} {s : Bool} (h : (mkAtom co k s).2 = true) : okA (mkAtom co k s).1 ∧ List.length (α := Int) (mkAtom co k s).1.1 = co.length := by
  unfold mkAtom mkAtomG at *
  generalize max 1 (gL k.natAbs co) = g at *
  cases hb : isAtom (List.map (α := Int) (fun x => x.tdiv (g : Int)) co, k.tdiv (g : Int), s) with
  | true => exact ⟨hb, by simp⟩
  | false => rw [hb] at h; simp at h
theorem mixA_okD {d p q : Int} {a b : Val Y36} (ha : okD d a) (hb : okD d b) (h : (mixA a p b q).2 = true) : okD d (mixA a p b q).1 := by
  unfold mixA at *
  cases hc : (isAtom a && isAtom b && decide (List.length (α := Int) a.1 = List.length (α := Int) b.1) && inR p 0 400000000 && inR q 0 400000000) with
  | false => rw [hc] at h; simp at h
  | true =>
    rw [hc] at h
    obtain ⟨h1, h2⟩ := mkAtom_okD h
    simp only [Bool.and_eq_true, decide_eq_true_eq] at hc
    refine ⟨h1, ?_⟩
    have := ha.2
    have e := mixC_len (p := p) (q := q) hc.1.1.2
    show (List.length (α := Int) (mkAtom (mixC p q a.1 b.1) _ _).1.1 : Int) = d
    rw [h2, e]; exact this
theorem mixIn_ok {v d : Int} {a : Val Y36} (ha : okD d a) : ∀ {xs s s' : List (Val Y36)}, (∀ b ∈ xs, okD d b) → (∀ b ∈ s, okD d b) → mixIn v a xs s = some s' → (∀ b ∈ s', okD d b) ∧ s'.length ≤ s.length + xs.length
  | [], s, s', _, hs, h => by simp only [mixIn, Option.some.injEq] at h; subst h; exact ⟨hs, by simp⟩
  | b :: r, s, s', hx, hs, h => by
    simp only [mixIn] at h
    cases hn : decide (cfV v b < 0) with
    | false =>
      rw [hn] at h
      obtain ⟨h1, h2⟩ := mixIn_ok ha (fun c hc => hx c (by simp [hc])) hs h
      exact ⟨h1, by simp; omega⟩
    | true =>
      rw [hn] at h
      cases hm : (mixA a (-cfV v b) b (cfV v a)).2 with
      | false => rw [hm] at h; simp at h
      | true =>
        rw [hm] at h
        simp only [cond_true] at h
        obtain ⟨h1, h2⟩ := mixIn_ok ha (fun c hc => hx c (by simp [hc])) (fun c hc => by
          rcases List.mem_append.1 hc with hc | hc
          · exact hs c hc
          · simp only [List.mem_singleton] at hc; subst hc; exact mixA_okD ha (hx b (by simp)) hm) h
        exact ⟨h1, by simp at h2 ⊢; omega⟩
theorem mixOut_ok {v d : Int} {l : List (Val Y36)} (hl : ∀ b ∈ l, okD d b) : ∀ {xs s s' : List (Val Y36)}, (∀ b ∈ xs, okD d b) → (∀ b ∈ s, okD d b) → mixOut v l xs s = some s' → (∀ b ∈ s', okD d b) ∧ s'.length ≤ s.length + xs.length * l.length
  | [], s, s', _, hs, h => by simp only [mixOut, Option.some.injEq] at h; subst h; exact ⟨hs, by simp⟩
  | a :: r, s, s', hx, hs, h => by
    simp only [mixOut] at h
    cases hn : decide (0 < cfV v a) with
    | false =>
      rw [hn] at h
      obtain ⟨h1, h2⟩ := mixOut_ok hl (fun c hc => hx c (by simp [hc])) hs h
      exact ⟨h1, by simp [Nat.add_mul]; omega⟩
    | true =>
      rw [hn] at h
      simp only [cond_true] at h
      cases hm : mixIn v a l s with
      | none => rw [hm] at h; simp at h
      | some s1 =>
        rw [hm] at h
        obtain ⟨g1, g2⟩ := mixIn_ok (hx a (by simp)) hl hs hm
        obtain ⟨h1, h2⟩ := mixOut_ok hl (fun c hc => hx c (by simp [hc])) g1 h
        exact ⟨h1, by simp [Nat.add_mul]; omega⟩
theorem flat_fold {ρ : Type} {v : Int} {k : List (Val Y36) → Option ρ} : ∀ (xs : List (Val Y36)) (i : Nat) (s : List (Val Y36)), s.length + xs.length ≤ 1048576 →
    foldK (fun _ (x : Val Y36) (s : List (Val Y36)) K => bif decide (cfV v x = 0) then chk (s.length + [x].length ≤ 1048576) (K (s ++ [x])) else K s) i xs s k = k (s ++ xs.filter fun a => decide (cfV v a = 0))
  | [], _, s, _ => by rw [foldK]; simp
  | x :: xs, i, s, h => by
    simp only [List.length_cons] at h
    rw [foldK, List.filter_cons]
    cases hb : decide (cfV v x = 0) with
    | true => simp only [cond_true]; rw [chk_pos (by simp; omega), flat_fold xs _ _ (by simp; omega)]; simp
    | false => simp only [cond_false]; rw [flat_fold xs _ _ (by omega)]; simp
theorem mixIn_fold {ρ : Type} {v : Int} {a : Val Y36} {r : Option ρ} {k : List (Val Y36) → Option ρ} : ∀ (xs : List (Val Y36)) (i : Nat) (s : List (Val Y36)), s.length + xs.length ≤ 1048576 →
    foldK (fun _ (b : Val Y36) (s : List (Val Y36)) K => bif decide (0 ≤ cfV v b) then K s else bif !(mixA a (-cfV v b) b (cfV v a)).2 then r else chk (s.length + [(mixA a (-cfV v b) b (cfV v a)).1].length ≤ 1048576) (K (s ++ [(mixA a (-cfV v b) b (cfV v a)).1]))) i xs s k = match mixIn v a xs s with
      | some s' => k s'
      | none => r
  | [], _, s, _ => by rw [foldK]; rfl
  | b :: xs, i, s, h => by
    simp only [List.length_cons] at h
    rw [foldK, mixIn]
    by_cases hb : cfV v b < 0
    · rw [bif_decN (show ¬ 0 ≤ cfV v b by omega), bif_dec hb]
      cases hm : (mixA a (-cfV v b) b (cfV v a)).2 with
      | false => rfl
      | true =>
        simp only [Bool.not_true, cond_false, cond_true]
        rw [chk_pos (by simp; omega)]
        exact mixIn_fold xs _ _ (by simp; omega)
    · rw [bif_dec (show 0 ≤ cfV v b by omega), bif_decN hb]
      exact mixIn_fold xs _ _ (by omega)
theorem t53a (N : Nat) (d v : Int) (l : List (Val Y36)) (hv : 0 ≤ v ∧ v < d) (hl : l.length ≤ 1048576) (h : ∀ b ∈ l, okD d b) (K : List (Val Y36) → Option (Vals [i32, i4])) (n : Nat) (hn : l.length < n) :
    m53_l5 N v l l.length d l 0 K n 0 [] = K (l.filter fun a => decide (cfV v a = 0)) :=
  (loop_fold (xs := l) (F := fun n i s => m53_l5 N v l l.length d l 0 K n i s) (step := fun _ (x : Val Y36) (s : List (Val Y36)) K => bif decide (cfV v x = 0) then chk (s.length + [x].length ≤ 1048576) (K (s ++ [x])) else K s) (k := K) hl (fun n i s hi => by
    have hd := (h _ (List.getElem_mem hi)).2
    rw [m53_l5, bif_dec (by omega), chk_pos (by omega), getD_atI hi, chk_pos ⟨hv.1, by rw [show (List.length (α := Val (.int .i64)) l[i].1 : Int) = d from hd]; exact hv.2⟩]
    try rfl) (fun n i s hi => by rw [m53_l5, bif_decN (by omega)]) n [] hn).trans (flat_fold l 0 [] (by simpa using hl))
theorem t53b (N : Nat) (d v : Int) (l : List (Val Y36)) (hv : 0 ≤ v ∧ v < d) (hl : l.length ≤ 1048576) (h : ∀ b ∈ l, okD d b) (a : Val Y36) (ha : okD d a) (i0 : Int) (K : List (Val Y36) → Option (Vals [i32, i4])) (n : Nat) (hn : l.length < n) (s : List (Val Y36)) (hs : s.length + l.length ≤ 1048576) :
    m53_l15 N v l l.length i0 l l.length d l 0 a.1 a.2.1 a.2.2 K n 0 s = match mixIn v a l s with
      | some s' => K s'
      | none => noCell :=
  (loop_fold (xs := l) (F := fun n i s => m53_l15 N v l l.length i0 l l.length d l 0 a.1 a.2.1 a.2.2 K n i s) (step := fun _ (b : Val Y36) (s : List (Val Y36)) K => bif decide (0 ≤ cfV v b) then K s else bif !(mixA a (-cfV v b) b (cfV v a)).2 then noCell else chk (s.length + [(mixA a (-cfV v b) b (cfV v a)).1].length ≤ 1048576) (K (s ++ [(mixA a (-cfV v b) b (cfV v a)).1]))) (k := K) hl (fun n i s hi => by
    have hb := h _ (List.getElem_mem hi)
    have hbd := hb.2
    have had := ha.2
    have hc := cfV_in (v := v) hb.1
    rw [m53_l15, bif_dec (by omega), chk_pos (by omega), getD_atI hi, chk_pos ⟨hv.1, by rw [show (List.length (α := Val (.int .i64)) l[i].1 : Int) = d from hbd]; exact hv.2⟩, chk_pos ⟨hv.1, by rw [show (List.length (α := Val (.int .i64)) l[i].1 : Int) = d from hbd]; exact hv.2⟩, chk_pos ⟨hv.1, by rw [show (List.length (α := Val (.int .i64)) a.1 : Int) = d from had]; exact hv.2⟩, cfV_eq, cfV_eq, neg_in (by unfold inI; omega)]
    try rfl) (fun n i s hi => by rw [m53_l15, bif_decN (by omega)]) n s hn).trans (mixIn_fold l 0 s hs)
theorem t53c (N : Nat) (d v : Int) (l : List (Val Y36)) (hv : 0 ≤ v ∧ v < d) (hl : l.length ≤ 16) (h : ∀ b ∈ l, okD d b) (hN : l.length < N) (K : List (Val Y36) → Option (Vals [i32, i4])) : ∀ (k i : Nat), l.length - i = k → ∀ n, k < n → ∀ s : List (Val Y36), s.length + k * l.length ≤ 1000 → (∀ b ∈ s, okD d b) →
    m53_l11 N v l l.length d l 0 K n i s = match mixOut v l (l.drop i) s with
      | some s' => K s'
      | none => noCell
  | 0, i, hi, n + 1, _, s, _, _ => by
    rw [m53_l11, bif_decN (by omega), List.drop_eq_nil_of_le (by omega)]
    rfl
  | k + 1, i, hi, n + 1, hn, s, hs, hsd => by
    have h1 : i < l.length := by omega
    have ha := h _ (List.getElem_mem h1)
    have had := ha.2
    have hk : s.length + (k * l.length + l.length) ≤ 1000 := by rw [Nat.add_mul, Nat.one_mul] at hs; exact hs
    rw [m53_l11, bif_dec (by omega), chk_pos (by omega), getD_atI h1, chk_pos ⟨hv.1, by rw [show (List.length (α := Val (.int .i64)) l[i].1 : Int) = d from had]; exact hv.2⟩, cfV_eq, wrap_succ h1 (by omega), drop_at h1, mixOut]
    by_cases hc : 0 < cfV v l[i]
    · rw [bif_decN (show ¬ cfV v l[i] ≤ 0 by omega), bif_dec hc, t53b N d v l hv (by omega) h l[i] ha _ _ N hN s (by omega)]
      cases hm : mixIn v l[i] l s with
      | none => rfl
      | some s1 =>
        obtain ⟨g1, g2⟩ := mixIn_ok ha h hsd hm
        exact t53c N d v l hv hl h hN K k (i + 1) (by omega) n (by omega) s1 (by omega) g1
    · rw [bif_dec (show cfV v l[i] ≤ 0 by omega), bif_decN hc]
      exact t53c N d v l hv hl h hN K k (i + 1) (by omega) n (by omega) s (by omega) hsd
theorem drop_okL {d v : Int} {l s : List (Val Y36)} (hd : 0 ≤ d ∧ d ≤ 4) (hl : l.length ≤ 16) (h : ∀ b ∈ l, okD d b) (hm : mixOut v l l (l.filter fun a => decide (cfV v a = 0)) = some s) : okL d s := by
  have hf := List.length_filter_le (fun a : Val Y36 => decide (cfV v a = 0)) l
  obtain ⟨g1, g2⟩ := mixOut_ok h h (fun b hb => h b (List.mem_filter.1 hb).1) hm
  have : l.length * l.length ≤ 16 * 16 := Nat.mul_le_mul hl hl
  exact ⟨hd, by omega, g1⟩
theorem e53 (c : Val Y32) (v : Int) : ∃ N, m53 N c v = some ((dropV c v).1, (dropV c v).2, ()) := ⟨List.length (α := Val Y36) c.2 + 1, by
  rw [m53]
  unfold dropV
  cases hc : isCell c with
  | false => rfl
  | true =>
  obtain ⟨hd, hl, hok⟩ := cell_in hc
  simp only [Bool.not_true, cond_false, Bool.true_and]
  by_cases h1 : v < 0
  · rw [bif_dec h1, decide_eq_false (by omega)]; rfl
  rw [bif_decN h1]
  by_cases h2 : (c.1 : Int) ≤ v
  · rw [bif_dec h2, decide_eq_false (fun h => absurd h.2 (Int.not_lt.2 h2))]; rfl
  have hv : 0 ≤ v ∧ v < (c.1 : Int) := ⟨by omega, Int.not_le.1 h2⟩
  rw [bif_decN h2, decide_eq_true hv]
  have hf := List.length_filter_le (fun a : Val Y36 => decide (cfV v a = 0)) c.2
  have hll : List.length (α := Val Y36) c.2 * List.length (α := Val Y36) c.2 ≤ 16 * 16 := Nat.mul_le_mul hl hl
  rw [t53a _ c.1 v c.2 hv (by omega) hok _ _ (Nat.lt_succ_self _)]
  have hfs : ∀ b ∈ List.filter (α := Val Y36) (fun a => decide (cfV v a = 0)) c.2, okD c.1 b := fun b hb => hok b (List.mem_filter.1 hb).1
  unfold dropL
  generalize hS : List.filter (α := Val Y36) (fun a => decide (cfV v a = 0)) c.2 = S at hf hfs ⊢
  refine (t53c _ c.1 v c.2 hv hl hok (Nat.lt_succ_self _) _ (List.length (α := Val Y36) c.2) 0 rfl _ (Nat.lt_succ_self _) S (by have h5 : S.length ≤ List.length (α := Val Y36) c.2 := hf; omega) hfs).trans ?_
  rw [List.drop_zero]
  simp only [cond_true]
  cases hm : mixOut v c.2 c.2 S with
  | none => rfl
  | some s =>
    dsimp only
    rw [chk_pos (show limV_pre c.1 s from drop_okL hd hl hok (hS ▸ hm))]⟩
theorem s53 : Sound Try.prog 53 g53 := sound_run (tt := tt) (Γ := Γ53) hT (ok_cons s40 (ok_cons s46 (ok_cons s77 ok_nil))) hm (fn := Try.f53) Try.func53 (c := Try.f53.body.getD .skip) (by kernel_rfl) (by kernel_rfl) fun x hx => by
  obtain ⟨N, h⟩ := e53 x.1 x.2.1
  exact ⟨T53 N, p53, noSem_ok _, tb53 N, (run53 N x.1 x.2.1).trans h⟩
theorem skip_fold {ρ α σ : Type} {k : σ → Option ρ} : ∀ (xs : List α) (i : Nat) (s : σ), foldK (fun _ (_ : α) (s : σ) (K : σ → Option ρ) => K s) i xs s k = k s
  | [], _, _ => rfl
  | _ :: xs, i, s => by rw [foldK]; exact skip_fold xs _ s
theorem t50a (N : Nat) (d v : Int) (l : List (Val Y36)) (hv : 0 ≤ v ∧ v < d) (hl : l.length ≤ 1048576) (h : ∀ b ∈ l, okD d b) (K : List (Val Y36) → Option (Vals [i32, i4])) (n : Nat) (hn : l.length < n) :
    m50_l3 N v d l 0 K n 0 [] = K (l.filter fun a => decide (cfV v a = 0)) :=
  (loop_fold (xs := l) (F := fun n i s => m50_l3 N v d l 0 K n i s) (step := fun _ (x : Val Y36) (s : List (Val Y36)) K => bif decide (cfV v x = 0) then chk (s.length + [x].length ≤ 1048576) (K (s ++ [x])) else K s) (k := K) hl (fun n i s hi => by
    have hd := (h _ (List.getElem_mem hi)).2
    rw [m50_l3, bif_dec (by omega), chk_pos (by omega), getD_atI hi, chk_pos ⟨hv.1, by rw [show (List.length (α := Val (.int .i64)) l[i].1 : Int) = d from hd]; exact hv.2⟩, chk_pos (by omega)]
    try rfl) (fun n i s hi => by rw [m50_l3, bif_decN (by omega)]) n [] hn).trans (flat_fold l 0 [] (by simpa using hl))
theorem t50b (N : Nat) (d v : Int) (l : List (Val Y36)) (hv : 0 ≤ v ∧ v < d) (hl : l.length ≤ 1048576) (h : ∀ b ∈ l, okD d b) (i0 : Nat) (h0 : i0 < l.length) (K : List (Val Y36) → Option (Vals [i32, i4])) (n : Nat) (hn : l.length < n) (s : List (Val Y36)) (hs : s.length + l.length ≤ 1048576) :
    m50_l11 N v i0 d l 0 K n 0 s = bif decide (0 < cfV v l[i0]) then (match mixIn v l[i0] l s with
      | some s' => K s'
      | none => noCell) else K s := by
  refine (loop_fold (xs := l) (F := fun n i s => m50_l11 N v i0 d l 0 K n i s) (step := fun _ (b : Val Y36) (s : List (Val Y36)) K => bif decide (cfV v l[i0] ≤ 0) then K s else bif decide (0 ≤ cfV v b) then K s else bif !(mixA l[i0] (-cfV v b) b (cfV v l[i0])).2 then noCell else chk (s.length + [(mixA l[i0] (-cfV v b) b (cfV v l[i0])).1].length ≤ 1048576) (K (s ++ [(mixA l[i0] (-cfV v b) b (cfV v l[i0])).1]))) (k := K) hl (fun n i s hi => ?_) (fun n i s hi => by rw [m50_l11, bif_decN (by omega)]) n s hn).trans ?_
  · have ha := h _ (List.getElem_mem h0)
    have hb := h _ (List.getElem_mem hi)
    have hbd := hb.2
    have had := ha.2
    have hc := cfV_in (v := v) hb.1
    have p1 : idA_pre l[i0] := by have := (atom_in ha.1).1; show List.length (α := Val (.int .i64)) l[i0].1 ≤ 1048576; exact Nat.le_trans this (by decide)
    have p2 : idA_pre l[i] := by have := (atom_in hb.1).1; show List.length (α := Val (.int .i64)) l[i].1 ≤ 1048576; exact Nat.le_trans this (by decide)
    rw [m50_l11, bif_dec (by omega), getD_atI h0, getD_atI hi]
    have ng : IntKind.i64.wrap (0 - cfV v l[i]) = -cfV v l[i] := neg_in (by unfold inI; omega)
    rw [cfV_eq v l[i0], cfV_eq v l[i], ng, chk_pos (by omega), chk_pos ⟨hv.1, by rw [show (List.length (α := Val (.int .i64)) l[i0].1 : Int) = d from had]; exact hv.2⟩, chk_pos (by omega), chk_pos ⟨hv.1, by rw [show (List.length (α := Val (.int .i64)) l[i].1 : Int) = d from hbd]; exact hv.2⟩, chk_pos (by omega), chk_pos (by omega), chk_pos (show mixA_pre l[i0] _ l[i] _ from ⟨p1, p2⟩)]
    try rfl
  · by_cases hx : 0 < cfV v l[i0]
    · rw [bif_dec hx, decide_eq_false (show ¬ cfV v l[i0] ≤ 0 by omega)]
      exact mixIn_fold l 0 s hs
    · rw [bif_decN hx, decide_eq_true (show cfV v l[i0] ≤ 0 by omega)]
      exact skip_fold l 0 s
theorem t50c (N : Nat) (d v : Int) (l : List (Val Y36)) (hv : 0 ≤ v ∧ v < d) (hl : l.length ≤ 16) (h : ∀ b ∈ l, okD d b) (hN : l.length < N) (K : List (Val Y36) → Option (Vals [i32, i4])) : ∀ (k i : Nat), l.length - i = k → ∀ n, k < n → ∀ s : List (Val Y36), s.length + k * l.length ≤ 1000 → (∀ b ∈ s, okD d b) →
    m50_l8 N v d l 0 K n i s = match mixOut v l (l.drop i) s with
      | some s' => K s'
      | none => noCell
  | 0, i, hi, n + 1, _, s, _, _ => by
    rw [m50_l8, bif_decN (by omega), List.drop_eq_nil_of_le (by omega)]
    rfl
  | k + 1, i, hi, n + 1, hn, s, hs, hsd => by
    have h1 : i < l.length := by omega
    have ha := h _ (List.getElem_mem h1)
    have hk : s.length + (k * l.length + l.length) ≤ 1000 := by rw [Nat.add_mul, Nat.one_mul] at hs; exact hs
    rw [m50_l8, bif_dec (by omega), wrap_succ h1 (by omega), drop_at h1, mixOut, t50b N d v l hv (by omega) h i h1 _ N hN s (by omega)]
    by_cases hc : 0 < cfV v l[i]
    · rw [bif_dec hc, bif_dec hc]
      cases hm : mixIn v l[i] l s with
      | none => rfl
      | some s1 =>
        obtain ⟨g1, g2⟩ := mixIn_ok ha h hsd hm
        exact t50c N d v l hv hl h hN K k (i + 1) (by omega) n (by omega) s1 (by omega) g1
    · rw [bif_decN hc, bif_decN hc]
      exact t50c N d v l hv hl h hN K k (i + 1) (by omega) n (by omega) s (by omega) hsd
theorem e50 (c : Val Y32) (v : Int) (h : dropL_pre c v) : ∃ N, m50 N c v = some ((dropL c v).1, (dropL c v).2, ()) := ⟨List.length (α := Val Y36) c.2 + 1, by
  obtain ⟨hc, hv⟩ := h
  rw [m50]
  obtain ⟨hd, hl, hok⟩ := cell_in hc
  have hf := List.length_filter_le (fun a : Val Y36 => decide (cfV v a = 0)) c.2
  have hll : List.length (α := Val Y36) c.2 * List.length (α := Val Y36) c.2 ≤ 16 * 16 := Nat.mul_le_mul hl hl
  rw [t50a _ c.1 v c.2 hv (by omega) hok _ _ (Nat.lt_succ_self _)]
  have hfs : ∀ b ∈ List.filter (α := Val Y36) (fun a => decide (cfV v a = 0)) c.2, okD c.1 b := fun b hb => hok b (List.mem_filter.1 hb).1
  unfold dropL
  generalize hS : List.filter (α := Val Y36) (fun a => decide (cfV v a = 0)) c.2 = S at hf hfs ⊢
  refine (t50c _ c.1 v c.2 hv hl hok (Nat.lt_succ_self _) _ (List.length (α := Val Y36) c.2) 0 rfl _ (Nat.lt_succ_self _) S (by have h5 : S.length ≤ List.length (α := Val Y36) c.2 := hf; omega) hfs).trans ?_
  rw [List.drop_zero]
  cases hm : mixOut v c.2 c.2 S with
  | none => rfl
  | some s =>
    dsimp only
    rw [chk_pos (show nrmV_pre c.1 s from drop_okL hd hl hok (hS ▸ hm))]
    unfold limV
    cases decide ((16 : Int) < (List.length (α := Val Y36) (nrmV c.1 s).2 : Int)) <;> rfl⟩
theorem s50 : Sound Try.prog 50 g50 := sound_run (tt := tt) (Γ := Γ50) hT (ok_cons s44 (ok_cons s68 ok_nil)) hm (fn := Try.f50) Try.func50 (c := Try.f50.body.getD .skip) (by kernel_rfl) (by kernel_rfl) fun x hx => by
  obtain ⟨N, h⟩ := e50 x.1 x.2.1 hx
  exact ⟨T50 N, p50, noSem_ok _, tb50 N, (run50 N x.1 x.2.1).trans h⟩
end Go.T
