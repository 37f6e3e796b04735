/- Bounds of a variable in a cell. -/
import Derived.Test.YthefcjjgchekiaaB15
set_option linter.unusedSimpArgs false
set_option linter.unusedVariables false
namespace Go.T
open Go Go.Proofs
set_option maxHeartbeats 4000000
set_option maxRecDepth 100000
/-- All variables from n - 1 on down are dropped, but v. -/
def dropAll (v : Int) : Nat → Val Y32 → Option (Val Y32)
  | 0, c => some c
  | n + 1, c => if (n : Int) = v then dropAll v n c else bif (dropL c n).2 then dropAll v n (dropL c n).1 else none
def bndsOf (c : Val Y32) (v : Int) : Val Y66 × Bool := bif isCell c && decide (0 ≤ v ∧ v < (c.1 : Int)) then (match dropAll v (c.1 : Int).toNat (nrmV c.1 c.2) with
    | some x => (bnds x v, true)
    | none => (noB, false)) else (noB, false)
def bndsOf_pre (c : Val Y32) (_ : Int) : Prop := isCell_pre c
def g41 : G := { ps := [i32, i3], rs := [i66, i4], dp := true, pre := fun _ => True, fn := fun x => ((bndsOf x.1 x.2.1).1, (bndsOf x.1 x.2.1).2, ()) }
def g39 : G := { ps := [i32, i3], rs := [i66, i4], dp := true, pre := fun x => bndsOf_pre x.1 x.2.1, fn := fun x => ((bndsOf x.1 x.2.1).1, (bndsOf x.1 x.2.1).2, ()) }
-- impl.BoundsOf
noncomputable def m41_l5 (N : Nat) (v2 : Int) (v4 : Bool) (v5 : Int) (v6 : Int) (v7 : Bool) (v8 : Bool) (v9 : Int) (v10 : Int) (v11 : Bool) (v12 : Bool) (k0 : Int → (List (Val Y36)) → Option (Vals [i66, i4])) : Nat → Int → Int → (List (Val Y36)) → Option (Vals [i66, i4])
  | 0, _, _, _ => none
  | n + 1, v3, v13, v14 => bif (decide ((0 : Int) ≤ v3)) then (bif (decide (v3 = v2)) then (m41_l5 N v2 v4 v5 v6 v7 v8 v9 v10 v11 v12 k0 n (IntKind.i64.wrap (v3 - (1 : Int))) v13 v14) else (bif (!((dropV (v13, v14) v3).2 : Bool)) then (some ((false, ((0 : Int), (0 : Int)), false, false, ((0 : Int), (0 : Int)), false, false), false, ())) else (m41_l5 N v2 v4 v5 v6 v7 v8 v9 v10 v11 v12 k0 n (IntKind.i64.wrap (v3 - (1 : Int))) (((dropV (v13, v14) v3).1).1 : Int) (((dropV (v13, v14) v3).1).2 : List (Val Y36))))) else (k0 v13 v14)
noncomputable def m41 (N : Nat) (v0 : Val Y32) (v1 : Int) : Option (Vals [i66, i4]) := bif (!((isCell v0) : Bool)) then (some ((false, ((0 : Int), (0 : Int)), false, false, ((0 : Int), (0 : Int)), false, false), false, ())) else (bif (decide (v1 < (0 : Int))) then (some ((false, ((0 : Int), (0 : Int)), false, false, ((0 : Int), (0 : Int)), false, false), false, ())) else (bif (decide ((v0.1 : Int) ≤ v1)) then (some ((false, ((0 : Int), (0 : Int)), false, false, ((0 : Int), (0 : Int)), false, false), false, ())) else (chk (nrmV_pre (v0.1 : Int) (v0.2 : List (Val Y36))) (m41_l5 N v1 false (0 : Int) (0 : Int) false false (0 : Int) (0 : Int) false false (fun (v17 : Int) (v18 : List (Val Y36)) => chk (isNoneC_pre (v17, v18)) (bif ((isNoneC (v17, v18)) : Bool) then (some ((false, ((0 : Int), (0 : Int)), false, false, ((0 : Int), (0 : Int)), false, true), true, ())) else (chk (bndsL_pre (v17, v18) v1) (bif ((bndsL (v17, v18) v1).1 : Bool) then (bif (((((bndsL (v17, v18) v1).2).2).2).1 : Bool) then (bif (decide ((0 : Int) < ((cmpR (((((bndsL (v17, v18) v1).2).1).1 : Int), ((((bndsL (v17, v18) v1).2).1).2 : Int)) ((((((((bndsL (v17, v18) v1).2).2).2).2).1).1 : Int), (((((((bndsL (v17, v18) v1).2).2).2).2).1).2 : Int))) : Int))) then (some ((false, ((0 : Int), (0 : Int)), false, false, ((0 : Int), (0 : Int)), false, true), true, ())) else (bif (decide (((cmpR (((((bndsL (v17, v18) v1).2).1).1 : Int), ((((bndsL (v17, v18) v1).2).1).2 : Int)) ((((((((bndsL (v17, v18) v1).2).2).2).2).1).1 : Int), (((((((bndsL (v17, v18) v1).2).2).2).2).1).2 : Int))) : Int) = (0 : Int))) then (bif ((((bndsL (v17, v18) v1).2).2).1 : Bool) then (some ((false, ((0 : Int), (0 : Int)), false, false, ((0 : Int), (0 : Int)), false, true), true, ())) else (bif (((((((bndsL (v17, v18) v1).2).2).2).2).2).1 : Bool) then (some ((false, ((0 : Int), (0 : Int)), false, false, ((0 : Int), (0 : Int)), false, true), true, ())) else (some ((((bndsL (v17, v18) v1).1 : Bool), (((((bndsL (v17, v18) v1).2).1).1 : Int), ((((bndsL (v17, v18) v1).2).1).2 : Int)), ((((bndsL (v17, v18) v1).2).2).1 : Bool), (((((bndsL (v17, v18) v1).2).2).2).1 : Bool), ((((((((bndsL (v17, v18) v1).2).2).2).2).1).1 : Int), (((((((bndsL (v17, v18) v1).2).2).2).2).1).2 : Int)), (((((((bndsL (v17, v18) v1).2).2).2).2).2).1 : Bool), (((((((bndsL (v17, v18) v1).2).2).2).2).2).2 : Bool)), true, ())))) else (some ((((bndsL (v17, v18) v1).1 : Bool), (((((bndsL (v17, v18) v1).2).1).1 : Int), ((((bndsL (v17, v18) v1).2).1).2 : Int)), ((((bndsL (v17, v18) v1).2).2).1 : Bool), (((((bndsL (v17, v18) v1).2).2).2).1 : Bool), ((((((((bndsL (v17, v18) v1).2).2).2).2).1).1 : Int), (((((((bndsL (v17, v18) v1).2).2).2).2).1).2 : Int)), (((((((bndsL (v17, v18) v1).2).2).2).2).2).1 : Bool), (((((((bndsL (v17, v18) v1).2).2).2).2).2).2 : Bool)), true, ())))) else (some ((((bndsL (v17, v18) v1).1 : Bool), (((((bndsL (v17, v18) v1).2).1).1 : Int), ((((bndsL (v17, v18) v1).2).1).2 : Int)), ((((bndsL (v17, v18) v1).2).2).1 : Bool), (((((bndsL (v17, v18) v1).2).2).2).1 : Bool), ((((((((bndsL (v17, v18) v1).2).2).2).2).1).1 : Int), (((((((bndsL (v17, v18) v1).2).2).2).2).1).2 : Int)), (((((((bndsL (v17, v18) v1).2).2).2).2).2).1 : Bool), (((((((bndsL (v17, v18) v1).2).2).2).2).2).2 : Bool)), true, ()))) else (some ((((bndsL (v17, v18) v1).1 : Bool), (((((bndsL (v17, v18) v1).2).1).1 : Int), ((((bndsL (v17, v18) v1).2).1).2 : Int)), ((((bndsL (v17, v18) v1).2).2).1 : Bool), (((((bndsL (v17, v18) v1).2).2).2).1 : Bool), ((((((((bndsL (v17, v18) v1).2).2).2).2).1).1 : Int), (((((((bndsL (v17, v18) v1).2).2).2).2).1).2 : Int)), (((((((bndsL (v17, v18) v1).2).2).2).2).2).1 : Bool), (((((((bndsL (v17, v18) v1).2).2).2).2).2).2 : Bool)), true, ())))))) N (IntKind.i64.wrap ((v0.1 : Int) - (1 : Int))) ((nrmV (v0.1 : Int) (v0.2 : List (Val Y36))).1 : Int) ((nrmV (v0.1 : Int) (v0.2 : List (Val Y36))).2 : List (Val Y36))))))
def Γ41 : Gam := [(40, g40), (52, g52), (53, g53), (54, g54), (55, g55), (56, g56)]
theorem Γ41_40 : Gam.get Γ41 40 = some g40 := rfl
theorem Γ41_52 : Gam.get Γ41 52 = some g52 := rfl
theorem Γ41_53 : Gam.get Γ41 53 = some g53 := rfl
theorem Γ41_54 : Gam.get Γ41 54 = some g54 := rfl
theorem Γ41_55 : Gam.get Γ41 55 = some g55 := rfl
theorem Γ41_56 : Gam.get Γ41 56 = some g56 := rfl
def nl41_5 : Nm := ⟨[false, true, false, false, true, false, true, true], []⟩
theorem nl41_5_fix : nl41_5.fix = [] := rfl
theorem nl41_5_keep : nl41_5.keep = [false, true, false, false, true, false, true, true] := rfl
def nx41_0 : Nm := ⟨[false, true, false, false, true, false, true], []⟩
theorem nx41_0_fix : nx41_0.fix = [] := rfl
theorem nx41_0_keep : nx41_0.keep = [false, true, false, false, true, false, true] := rfl
def tr41 : Nat → Tree := fun _ => .done
def lp41 : Nat → Nm := fun i => if i = 5 then nl41_5 else ⟨[], []⟩
def jn41 : Nat → Option Jn := fun _ => none
def ex41 : Nat → Option Nm := fun i => if i = 0 then some nx41_0 else none
def rg41 : Nat → Option Nm := fun _ => none
theorem p41 : plansOk tr41 (Try.f41.body.getD .skip) = true := by kernel_rfl
def T41 (N : Nat) : Tab := { tr := tr41, lp := lp41, ex := ex41, rg := rg41, jn := jn41, fuel := N }
theorem T41_pins (N : Nat) : (T41 N).pins = false := rfl
theorem tb41 (N : Nat) : TbOk Try.prog (T41 N) := tb_none fun _ => rfl
theorem T41_tr (N i : Nat) : (T41 N).tr i = tr41 i := rfl
theorem T41_lp (N i : Nat) : (T41 N).lp i = lp41 i := rfl
theorem T41_ex (N i : Nat) : (T41 N).ex i = ex41 i := rfl
theorem T41_rg (N i : Nat) : (T41 N).rg i = rg41 i := rfl
theorem T41_jn (N i : Nat) : (T41 N).jn i = jn41 i := rfl
theorem T41_fuel (N : Nat) : (T41 N).fuel = N := rfl
noncomputable def c41_5 : Code := cut [true, true, true, false, true, true, true] (Try.f41.body.getD .skip)
theorem c41_5_at {N : Nat} {Q : X → St → Option (Vals [i66, i4])} {e : List LV} {h : List Blk} : runT tt Γ41 (T41 N) c41_5 Q ⟨e, h⟩ = runT tt Γ41 (T41 N) (cut [true, true, true, false, true, true, true] (Try.f41.body.getD .skip)) Q ⟨e, h⟩ := rfl
theorem r41_l5 (N : Nat) (v2 : Int) (v4 : Bool) (v5 : Int) (v6 : Int) (v7 : Bool) (v8 : Bool) (v9 : Int) (v10 : Int) (v11 : Bool) (v12 : Bool) {k0 : Int → (List (Val Y36)) → Option (Vals [i66, i4])} {Q : X → St → Option (Vals [i66, i4])} {c : Code} (hc : c = c41_5) (hret : ∀ st, Q .ret st = retS tt true [i66, i4] [.cell 4 66, .tmp 5] st) (h0 : ∀ (v15 : Int) (v16 : List (Val Y36)), Q (.exit 0) ⟨[u, .one (.int .i64 v2), u, u, .one (.ptr 0 0 0), u, .one (.ptr 1 0 0), u, u, u, u, u, u, u, u, u, u, u, u, u, u, u, u, u, u, u, u, u, u, u, u, u, u, u, u, u, u, u, u, u, u, u, u, u, u, u, u, u, u, u, u, u, u, u, u, u, u, u, u, u, u, u, u, u, u, u, u, u, u, u, u, u, u, u, u, u, u, u, u, u, u, u, u, u], [.box [.bool v4, .int .i64 v5, .int .i64 v6, .bool v7, .bool v8, .int .i64 v9, .int .i64 v10, .bool v11, .bool v12], .box [.int .i64 v15, .own 2], .row 36 Y36 v16 true true 0]⟩ = k0 v15 v16) : ∀ (n : Nat) (v3 : Int) (v13 : Int) (v14 : List (Val Y36)), loopR (runT tt Γ41 (T41 N) c) false nl41_5 Q n ⟨[u, .one (.int .i64 v2), u, u, .one (.ptr 0 0 0), u, .one (.ptr 1 0 0), .one (.int .i64 v3), u, u, u, u, u, u, u, u, u, u, u, u, u, u, u, u, u, u, u, u, u, u, u, u, u, u, u, u, u, u, u, u, u, u, u, u, u, u, u, u, u, u, u, u, u, u, u, u, u, u, u, u, u, u, u, u, u, u, u, u, u, u, u, u, u, u, u, u, u, u, u, u, u, u, u, u], [.box [.bool v4, .int .i64 v5, .int .i64 v6, .bool v7, .bool v8, .int .i64 v9, .int .i64 v10, .bool v11, .bool v12], .box [.int .i64 v13, .own 2], .row 36 Y36 v14 true true 0]⟩ = m41_l5 N v2 v4 v5 v6 v7 v8 v9 v10 v11 v12 k0 n v3 v13 v14 := by
  subst hc; intro n; induction n with
  | zero => intros; rfl
  | succ n ih =>
    intro v3 v13 v14
    rw [loop_succ, c41_5_at, m41_l5]; unfold Try.f41
    simp (maxSteps := 10000000) -implicitDefEqProofs [T41_tr, tr41, T41_lp, lp41, T41_ex, ex41, T41_rg, rg41, T41_jn, jn41, T41_fuel, T41_pins, nl41_5_fix, nl41_5_keep, nx41_0_fix, nx41_0_keep, Γ41_40, Γ41_52, Γ41_53, Γ41_54, Γ41_55, Γ41_56, g40, g52, g53, g54, g55, g56, hret, h0, ih]
theorem run41 (N : Nat) (v0 : Val Y32) (v1 : Int) : runT tt Γ41 (T41 N) (Try.f41.body.getD .skip) (retR tt true [i66, i4] [.cell 4 66, .tmp 5]) (entryP [i32, i3] 84 (v0, v1, ())) = m41 N v0 v1 := by
  unfold Try.f41
  simp (maxSteps := 10000000) -implicitDefEqProofs [T41_tr, tr41, T41_lp, lp41, T41_ex, ex41, T41_rg, rg41, T41_jn, jn41, T41_fuel, T41_pins, nl41_5_fix, nl41_5_keep, nx41_0_fix, nx41_0_keep, Γ41_40, Γ41_52, Γ41_53, Γ41_54, Γ41_55, Γ41_56, g40, g52, g53, g54, g55, g56]
  rewrite [r41_l5 (k0 := (fun (v17 : Int) (v18 : List (Val Y36)) => chk (isNoneC_pre (v17, v18)) (bif ((isNoneC (v17, v18)) : Bool) then (some ((false, ((0 : Int), (0 : Int)), false, false, ((0 : Int), (0 : Int)), false, true), true, ())) else (chk (bndsL_pre (v17, v18) v1) (bif ((bndsL (v17, v18) v1).1 : Bool) then (bif (((((bndsL (v17, v18) v1).2).2).2).1 : Bool) then (bif (decide ((0 : Int) < ((cmpR (((((bndsL (v17, v18) v1).2).1).1 : Int), ((((bndsL (v17, v18) v1).2).1).2 : Int)) ((((((((bndsL (v17, v18) v1).2).2).2).2).1).1 : Int), (((((((bndsL (v17, v18) v1).2).2).2).2).1).2 : Int))) : Int))) then (some ((false, ((0 : Int), (0 : Int)), false, false, ((0 : Int), (0 : Int)), false, true), true, ())) else (bif (decide (((cmpR (((((bndsL (v17, v18) v1).2).1).1 : Int), ((((bndsL (v17, v18) v1).2).1).2 : Int)) ((((((((bndsL (v17, v18) v1).2).2).2).2).1).1 : Int), (((((((bndsL (v17, v18) v1).2).2).2).2).1).2 : Int))) : Int) = (0 : Int))) then (bif ((((bndsL (v17, v18) v1).2).2).1 : Bool) then (some ((false, ((0 : Int), (0 : Int)), false, false, ((0 : Int), (0 : Int)), false, true), true, ())) else (bif (((((((bndsL (v17, v18) v1).2).2).2).2).2).1 : Bool) then (some ((false, ((0 : Int), (0 : Int)), false, false, ((0 : Int), (0 : Int)), false, true), true, ())) else (some ((((bndsL (v17, v18) v1).1 : Bool), (((((bndsL (v17, v18) v1).2).1).1 : Int), ((((bndsL (v17, v18) v1).2).1).2 : Int)), ((((bndsL (v17, v18) v1).2).2).1 : Bool), (((((bndsL (v17, v18) v1).2).2).2).1 : Bool), ((((((((bndsL (v17, v18) v1).2).2).2).2).1).1 : Int), (((((((bndsL (v17, v18) v1).2).2).2).2).1).2 : Int)), (((((((bndsL (v17, v18) v1).2).2).2).2).2).1 : Bool), (((((((bndsL (v17, v18) v1).2).2).2).2).2).2 : Bool)), true, ())))) else (some ((((bndsL (v17, v18) v1).1 : Bool), (((((bndsL (v17, v18) v1).2).1).1 : Int), ((((bndsL (v17, v18) v1).2).1).2 : Int)), ((((bndsL (v17, v18) v1).2).2).1 : Bool), (((((bndsL (v17, v18) v1).2).2).2).1 : Bool), ((((((((bndsL (v17, v18) v1).2).2).2).2).1).1 : Int), (((((((bndsL (v17, v18) v1).2).2).2).2).1).2 : Int)), (((((((bndsL (v17, v18) v1).2).2).2).2).2).1 : Bool), (((((((bndsL (v17, v18) v1).2).2).2).2).2).2 : Bool)), true, ())))) else (some ((((bndsL (v17, v18) v1).1 : Bool), (((((bndsL (v17, v18) v1).2).1).1 : Int), ((((bndsL (v17, v18) v1).2).1).2 : Int)), ((((bndsL (v17, v18) v1).2).2).1 : Bool), (((((bndsL (v17, v18) v1).2).2).2).1 : Bool), ((((((((bndsL (v17, v18) v1).2).2).2).2).1).1 : Int), (((((((bndsL (v17, v18) v1).2).2).2).2).1).2 : Int)), (((((((bndsL (v17, v18) v1).2).2).2).2).2).1 : Bool), (((((((bndsL (v17, v18) v1).2).2).2).2).2).2 : Bool)), true, ()))) else (some ((((bndsL (v17, v18) v1).1 : Bool), (((((bndsL (v17, v18) v1).2).1).1 : Int), ((((bndsL (v17, v18) v1).2).1).2 : Int)), ((((bndsL (v17, v18) v1).2).2).1 : Bool), (((((bndsL (v17, v18) v1).2).2).2).1 : Bool), ((((((((bndsL (v17, v18) v1).2).2).2).2).1).1 : Int), (((((((bndsL (v17, v18) v1).2).2).2).2).1).2 : Int)), (((((((bndsL (v17, v18) v1).2).2).2).2).2).1 : Bool), (((((((bndsL (v17, v18) v1).2).2).2).2).2).2 : Bool)), true, ()))))))) N _ _ _ _ _ _ _ _ _ _ ?_ ?_ ?_]
  · rewrite [m41]; first | rfl | simp (maxSteps := 10000000) -implicitDefEqProofs []
  · rfl
  · intro; simp only [seqR_ret, blockR_ret, retR_ret, retX_ret]
  · intro v17 v18; simp (maxSteps := 10000000) -implicitDefEqProofs [T41_tr, tr41, T41_lp, lp41, T41_ex, ex41, T41_rg, rg41, T41_jn, jn41, T41_fuel, T41_pins, nl41_5_fix, nl41_5_keep, nx41_0_fix, nx41_0_keep, Γ41_40, Γ41_52, Γ41_53, Γ41_54, Γ41_55, Γ41_56, g40, g52, g53, g54, g55, g56]
-- spec.BoundsOf
noncomputable def m39_l5 (N : Nat) (v2 : Int) (v4 : Bool) (v5 : Int) (v6 : Int) (v7 : Bool) (v8 : Bool) (v9 : Int) (v10 : Int) (v11 : Bool) (v12 : Bool) (k0 : Int → (List (Val Y36)) → Option (Vals [i66, i4])) : Nat → Int → Int → (List (Val Y36)) → Option (Vals [i66, i4])
  | 0, _, _, _ => none
  | n + 1, v3, v13, v14 => bif (decide ((0 : Int) ≤ v3)) then (bif (decide (v3 = v2)) then (m39_l5 N v2 v4 v5 v6 v7 v8 v9 v10 v11 v12 k0 n (IntKind.i64.wrap (v3 - (1 : Int))) v13 v14) else (chk (dropL_pre (v13, v14) v3) (bif (!((dropL (v13, v14) v3).2 : Bool)) then (some ((false, ((0 : Int), (0 : Int)), false, false, ((0 : Int), (0 : Int)), false, false), false, ())) else (m39_l5 N v2 v4 v5 v6 v7 v8 v9 v10 v11 v12 k0 n (IntKind.i64.wrap (v3 - (1 : Int))) (((dropL (v13, v14) v3).1).1 : Int) (((dropL (v13, v14) v3).1).2 : List (Val Y36)))))) else (k0 v13 v14)
noncomputable def m39 (N : Nat) (v0 : Val Y32) (v1 : Int) : Option (Vals [i66, i4]) := chk (isCell_pre v0) (bif (!((isCell v0) : Bool)) then (some ((false, ((0 : Int), (0 : Int)), false, false, ((0 : Int), (0 : Int)), false, false), false, ())) else (bif (!((inR v1 (0 : Int) (IntKind.i64.wrap ((v0.1 : Int) - (1 : Int)))) : Bool)) then (some ((false, ((0 : Int), (0 : Int)), false, false, ((0 : Int), (0 : Int)), false, false), false, ())) else (chk (nrmV_pre (v0.1 : Int) (v0.2 : List (Val Y36))) (m39_l5 N v1 false (0 : Int) (0 : Int) false false (0 : Int) (0 : Int) false false (fun (v17 : Int) (v18 : List (Val Y36)) => chk (bnds_pre (v17, v18) v1) (some ((((bnds (v17, v18) v1).1 : Bool), (((((bnds (v17, v18) v1).2).1).1 : Int), ((((bnds (v17, v18) v1).2).1).2 : Int)), ((((bnds (v17, v18) v1).2).2).1 : Bool), (((((bnds (v17, v18) v1).2).2).2).1 : Bool), ((((((((bnds (v17, v18) v1).2).2).2).2).1).1 : Int), (((((((bnds (v17, v18) v1).2).2).2).2).1).2 : Int)), (((((((bnds (v17, v18) v1).2).2).2).2).2).1 : Bool), (((((((bnds (v17, v18) v1).2).2).2).2).2).2 : Bool)), true, ()))) N (IntKind.i64.wrap ((v0.1 : Int) - (1 : Int))) ((nrmV (v0.1 : Int) (v0.2 : List (Val Y36))).1 : Int) ((nrmV (v0.1 : Int) (v0.2 : List (Val Y36))).2 : List (Val Y36))))))
def Γ39 : Gam := [(38, g38), (44, g44), (49, g49), (50, g50), (51, g51)]
theorem Γ39_38 : Gam.get Γ39 38 = some g38 := rfl
theorem Γ39_44 : Gam.get Γ39 44 = some g44 := rfl
theorem Γ39_49 : Gam.get Γ39 49 = some g49 := rfl
theorem Γ39_50 : Gam.get Γ39 50 = some g50 := rfl
theorem Γ39_51 : Gam.get Γ39 51 = some g51 := rfl
def nl39_5 : Nm := ⟨[false, true, false, false, true, false, true, true], []⟩
theorem nl39_5_fix : nl39_5.fix = [] := rfl
theorem nl39_5_keep : nl39_5.keep = [false, true, false, false, true, false, true, true] := rfl
def nx39_0 : Nm := ⟨[false, true, false, false, true, false, true], []⟩
theorem nx39_0_fix : nx39_0.fix = [] := rfl
theorem nx39_0_keep : nx39_0.keep = [false, true, false, false, true, false, true] := rfl
def tr39 : Nat → Tree := fun _ => .done
def lp39 : Nat → Nm := fun i => if i = 5 then nl39_5 else ⟨[], []⟩
def jn39 : Nat → Option Jn := fun _ => none
def ex39 : Nat → Option Nm := fun i => if i = 0 then some nx39_0 else none
def rg39 : Nat → Option Nm := fun _ => none
theorem p39 : plansOk tr39 (Try.f39.body.getD .skip) = true := by kernel_rfl
def T39 (N : Nat) : Tab := { tr := tr39, lp := lp39, ex := ex39, rg := rg39, jn := jn39, fuel := N }
theorem T39_pins (N : Nat) : (T39 N).pins = false := rfl
theorem tb39 (N : Nat) : TbOk Try.prog (T39 N) := tb_none fun _ => rfl
theorem T39_tr (N i : Nat) : (T39 N).tr i = tr39 i := rfl
theorem T39_lp (N i : Nat) : (T39 N).lp i = lp39 i := rfl
theorem T39_ex (N i : Nat) : (T39 N).ex i = ex39 i := rfl
theorem T39_rg (N i : Nat) : (T39 N).rg i = rg39 i := rfl
theorem T39_jn (N i : Nat) : (T39 N).jn i = jn39 i := rfl
theorem T39_fuel (N : Nat) : (T39 N).fuel = N := rfl
noncomputable def c39_5 : Code := cut [true, true, true, false, true, true, true] (Try.f39.body.getD .skip)
theorem c39_5_at {N : Nat} {Q : X → St → Option (Vals [i66, i4])} {e : List LV} {h : List Blk} : runT tt Γ39 (T39 N) c39_5 Q ⟨e, h⟩ = runT tt Γ39 (T39 N) (cut [true, true, true, false, true, true, true] (Try.f39.body.getD .skip)) Q ⟨e, h⟩ := rfl
theorem r39_l5 (N : Nat) (v2 : Int) (v4 : Bool) (v5 : Int) (v6 : Int) (v7 : Bool) (v8 : Bool) (v9 : Int) (v10 : Int) (v11 : Bool) (v12 : Bool) {k0 : Int → (List (Val Y36)) → Option (Vals [i66, i4])} {Q : X → St → Option (Vals [i66, i4])} {c : Code} (hc : c = c39_5) (hret : ∀ st, Q .ret st = retS tt true [i66, i4] [.cell 4 66, .tmp 5] st) (h0 : ∀ (v15 : Int) (v16 : List (Val Y36)), Q (.exit 0) ⟨[u, .one (.int .i64 v2), u, u, .one (.ptr 0 0 0), u, .one (.ptr 1 0 0), u, u, u, u, u, u, u, u, u, u, u, u, u, u, u, u, u, u, u, u, u, u, u, u, u, u, u, u, u, u, u, u, u, u, u, u, u, u, u, u, u, u, u], [.box [.bool v4, .int .i64 v5, .int .i64 v6, .bool v7, .bool v8, .int .i64 v9, .int .i64 v10, .bool v11, .bool v12], .box [.int .i64 v15, .sl 36 Y36 v16 2]]⟩ = k0 v15 v16) : ∀ (n : Nat) (v3 : Int) (v13 : Int) (v14 : List (Val Y36)), loopR (runT tt Γ39 (T39 N) c) false nl39_5 Q n ⟨[u, .one (.int .i64 v2), u, u, .one (.ptr 0 0 0), u, .one (.ptr 1 0 0), .one (.int .i64 v3), u, u, u, u, u, u, u, u, u, u, u, u, u, u, u, u, u, u, u, u, u, u, u, u, u, u, u, u, u, u, u, u, u, u, u, u, u, u, u, u, u, u], [.box [.bool v4, .int .i64 v5, .int .i64 v6, .bool v7, .bool v8, .int .i64 v9, .int .i64 v10, .bool v11, .bool v12], .box [.int .i64 v13, .sl 36 Y36 v14 2]]⟩ = m39_l5 N v2 v4 v5 v6 v7 v8 v9 v10 v11 v12 k0 n v3 v13 v14 := by
  subst hc; intro n; induction n with
  | zero => intros; rfl
  | succ n ih =>
    intro v3 v13 v14
    rw [loop_succ, c39_5_at, m39_l5]; unfold Try.f39
    simp (maxSteps := 10000000) -implicitDefEqProofs [T39_tr, tr39, T39_lp, lp39, T39_ex, ex39, T39_rg, rg39, T39_jn, jn39, T39_fuel, T39_pins, nl39_5_fix, nl39_5_keep, nx39_0_fix, nx39_0_keep, Γ39_38, Γ39_44, Γ39_49, Γ39_50, Γ39_51, g38, g44, g49, g50, g51, hret, h0, ih]
theorem run39 (N : Nat) (v0 : Val Y32) (v1 : Int) : runT tt Γ39 (T39 N) (Try.f39.body.getD .skip) (retR tt true [i66, i4] [.cell 4 66, .tmp 5]) (entryP [i32, i3] 50 (v0, v1, ())) = m39 N v0 v1 := by
  unfold Try.f39
  simp (maxSteps := 10000000) -implicitDefEqProofs [T39_tr, tr39, T39_lp, lp39, T39_ex, ex39, T39_rg, rg39, T39_jn, jn39, T39_fuel, T39_pins, nl39_5_fix, nl39_5_keep, nx39_0_fix, nx39_0_keep, Γ39_38, Γ39_44, Γ39_49, Γ39_50, Γ39_51, g38, g44, g49, g50, g51]
  rewrite [r39_l5 (k0 := (fun (v17 : Int) (v18 : List (Val Y36)) => chk (bnds_pre (v17, v18) v1) (some ((((bnds (v17, v18) v1).1 : Bool), (((((bnds (v17, v18) v1).2).1).1 : Int), ((((bnds (v17, v18) v1).2).1).2 : Int)), ((((bnds (v17, v18) v1).2).2).1 : Bool), (((((bnds (v17, v18) v1).2).2).2).1 : Bool), ((((((((bnds (v17, v18) v1).2).2).2).2).1).1 : Int), (((((((bnds (v17, v18) v1).2).2).2).2).1).2 : Int)), (((((((bnds (v17, v18) v1).2).2).2).2).2).1 : Bool), (((((((bnds (v17, v18) v1).2).2).2).2).2).2 : Bool)), true, ())))) N _ _ _ _ _ _ _ _ _ _ ?_ ?_ ?_]
  · rewrite [m39]; first | rfl | simp (maxSteps := 10000000) -implicitDefEqProofs []
  · rfl
  · intro; simp only [seqR_ret, blockR_ret, retR_ret, retX_ret]
  · intro v17 v18; simp (maxSteps := 10000000) -implicitDefEqProofs [T39_tr, tr39, T39_lp, lp39, T39_ex, ex39, T39_rg, rg39, T39_jn, jn39, T39_fuel, T39_pins, nl39_5_fix, nl39_5_keep, nx39_0_fix, nx39_0_keep, Γ39_38, Γ39_44, Γ39_49, Γ39_50, Γ39_51, g38, g44, g49, g50, g51]
end Go.T
