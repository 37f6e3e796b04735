/- Regions: cells that are added. Run. -/
import Derived.Test.YthefcjjgchekiaaGreatE5
import Derived.Test.YthefcjjgchekiaaGreatT11
set_option linter.unusedSimpArgs false
set_option linter.unusedVariables false
namespace Go.T
open Go Go.Proofs
set_option maxHeartbeats 4000000
set_option maxRecDepth 100000
def isNoneC (c : Val Y33) : Bool := match (c.2 : List (Val Y108)) with
  | [a] => !hasVar a && decide ((a.2.1 : Int) = 1) && !a.2.2
  | _ => false
def isNoneC_pre (c : Val Y33) : Prop := isCell c = true
def g240 : G := { ps := [i33], rs := [i4], dp := true, pre := fun x => isNoneC_pre x.1, fn := fun x => (isNoneC x.1, ()) }
noncomputable def m240 (N : Nat) (v0 : Val Y33) : Option (Vals [i4]) := bif (decide (((v0.2 : List (Val Y108)).length : Int) = (1 : Int))) then (chk (0 ≤ (0 : Int) ∧ (0 : Int) < ((v0.2 : List (Val Y108)).length : Int)) (chk (hasVar_pre ((v0.2 : List (Val Y108)).getD ((0 : Int).toNat) (dflt Y108))) (bif (!((hasVar ((v0.2 : List (Val Y108)).getD ((0 : Int).toNat) (dflt Y108))) : Bool)) then (chk (0 ≤ (0 : Int) ∧ (0 : Int) < ((v0.2 : List (Val Y108)).length : Int)) (bif (decide (((((v0.2 : List (Val Y108)).getD ((0 : Int).toNat) (dflt Y108)).2).1 : Int) = (1 : Int))) then (chk (0 ≤ (0 : Int) ∧ (0 : Int) < ((v0.2 : List (Val Y108)).length : Int)) (some ((!((((v0.2 : List (Val Y108)).getD ((0 : Int).toNat) (dflt Y108)).2).2 : Bool)), ()))) else (some (false, ())))) else (some (false, ()))))) else (some (false, ()))
def Γ240 : Gam := [(287, g287)]
theorem Γ240_287 : Gam.get Γ240 287 = some g287 := rfl
def tr240 : Nat → Tree := fun _ => .done
def lp240 : Nat → Nm := fun _ => ⟨[], [], false⟩
def jn240 : Nat → Option Jn := fun _ => none
def ex240 : Nat → Option Nm := fun _ => none
def rg240 : Nat → Option Nm := fun _ => none
theorem p240 : plansOk tr240 (Tryz.f240.body.getD .skip) = true := by kernel_rfl
def T240 (N : Nat) : Tab := { tr := tr240, lp := lp240, ex := ex240, rg := rg240, jn := jn240, fuel := N }
theorem T240_pins (N : Nat) : (T240 N).pins = false := rfl
theorem tb240 (N : Nat) : TbOk Tryz.prog (T240 N) := tb_none fun _ => rfl
theorem T240_tr (N : Nat) (i : Nat) : (T240 N).tr i = tr240 i := rfl
theorem T240_lp (N : Nat) (i : Nat) : (T240 N).lp i = lp240 i := rfl
theorem T240_ex (N : Nat) (i : Nat) : (T240 N).ex i = ex240 i := rfl
theorem T240_rg (N : Nat) (i : Nat) : (T240 N).rg i = rg240 i := rfl
theorem T240_jn (N : Nat) (i : Nat) : (T240 N).jn i = jn240 i := rfl
theorem T240_fuel (N : Nat) : (T240 N).fuel = N := rfl
theorem run240 (N : Nat) (v0 : Val Y33) : runT tt Γ240 (T240 N) (Tryz.f240.body.getD .skip) (retR tt true [i4] [.tmp 2]) (entryP [i33] 31 (v0, ())) = m240 N v0 := by
  rw [m240]; unfold Tryz.f240
  simp (maxSteps := 10000000) -implicitDefEqProofs [T240_tr, tr240, T240_lp, lp240, T240_ex, ex240, T240_rg, rg240, T240_jn, jn240, T240_fuel, T240_pins, Γ240_287, g287]
  try rfl
abbrev failR : Val Y50 × Bool := (((0 : Int), []), false)
def isReg (r : Val Y50) : Bool := decide (0 ≤ (r.1 : Int) ∧ (r.1 : Int) ≤ 4) && decide ((List.length (α := Val Y33) r.2 : Int) ≤ 12) && List.all (α := Val Y33) r.2 fun c => isCell c && decide ((c.1 : Int) = (r.1 : Int))
def isReg_pre (r : Val Y50) : Prop := List.length (α := Val Y33) r.2 ≤ 1048576 ∧ ∀ c ∈ (r.2 : List (Val Y33)), isCell_pre c
noncomputable def m117_l2 (N : Nat) (v2 : Int) (v3 : List (Val Y33)) (k0 : Unit → Option (Vals [i4])) : Nat → Int → Option (Vals [i4])
  | 0, _ => none
  | n + 1, v1 => bif (decide (v1 < (v3.length : Int))) then (chk (0 ≤ v1 ∧ v1 < (v3.length : Int)) (chk (isCell_pre (v3.getD v1.toNat (dflt Y33))) (bif (!((isCell (v3.getD v1.toNat (dflt Y33))) : Bool)) then (some (false, ())) else (chk (0 ≤ v1 ∧ v1 < (v3.length : Int)) (bif (!(decide (((v3.getD v1.toNat (dflt Y33)).1 : Int) = v2))) then (some (false, ())) else (m117_l2 N v2 v3 k0 n (IntKind.i64.wrap (v1 + (1 : Int))))))))) else (k0 ())
noncomputable def m117 (N : Nat) (v0 : Val Y50) : Option (Vals [i4]) := m117_l2 N (v0.1 : Int) (v0.2 : List (Val Y33)) (fun (_ : Unit) => bif ((inR (v0.1 : Int) (0 : Int) (4 : Int)) : Bool) then (some ((decide (((v0.2 : List (Val Y33)).length : Int) ≤ (12 : Int))), ())) else (some (false, ()))) N (0 : Int)
def Γ117 : Gam := [(104, g104), (118, g118)]
theorem Γ117_104 : Gam.get Γ117 104 = some g104 := rfl
theorem Γ117_118 : Gam.get Γ117 118 = some g118 := rfl
def nl117_2 : Nm := ⟨[false, true, false, true], [], false⟩
theorem nl117_2_zero : nl117_2.zero = false := rfl
theorem nl117_2_fix : nl117_2.fix = [] := rfl
theorem nl117_2_keep : nl117_2.keep = [false, true, false, true] := rfl
def nx117_0 : Nm := ⟨[false, true], [], false⟩
theorem nx117_0_zero : nx117_0.zero = false := rfl
theorem nx117_0_fix : nx117_0.fix = [] := rfl
theorem nx117_0_keep : nx117_0.keep = [false, true] := rfl
def tr117 : Nat → Tree := fun i => if i = 4 then .quiet 0 (.quiet 1 (.quiet 2 (.quiet 3 (.quiet 4 (.alt 5 (.quiet 6 (.quiet 7 (.quiet 8 (.quiet 9 (.quiet 10 (.quiet 11 (.quiet 12 (.quiet 13 (.quiet 14 (.quiet 15 (.quiet 16 (.quiet 17 .done)))))))))))) .stop))))) else .done
def lp117 : Nat → Nm := fun i => if i = 2 then nl117_2 else ⟨[], [], false⟩
def jn117 : Nat → Option Jn := fun _ => none
def ex117 : Nat → Option Nm := fun i => if i = 0 then some nx117_0 else none
def rg117 : Nat → Option Nm := fun _ => none
theorem p117 : plansOk tr117 (Tryz.f117.body.getD .skip) = true := by kernel_rfl
def T117 (N : Nat) : Tab := { tr := tr117, lp := lp117, ex := ex117, rg := rg117, jn := jn117, fuel := N }
theorem T117_pins (N : Nat) : (T117 N).pins = false := rfl
theorem tb117 (N : Nat) : TbOk Tryz.prog (T117 N) := tb_none fun _ => rfl
theorem T117_tr (N : Nat) (i : Nat) : (T117 N).tr i = tr117 i := rfl
theorem T117_lp (N : Nat) (i : Nat) : (T117 N).lp i = lp117 i := rfl
theorem T117_ex (N : Nat) (i : Nat) : (T117 N).ex i = ex117 i := rfl
theorem T117_rg (N : Nat) (i : Nat) : (T117 N).rg i = rg117 i := rfl
theorem T117_jn (N : Nat) (i : Nat) : (T117 N).jn i = jn117 i := rfl
theorem T117_fuel (N : Nat) : (T117 N).fuel = N := rfl
noncomputable def c117_2 : Code := cut [true, false, true, true, true] (Tryz.f117.body.getD .skip)
theorem c117_2_at {N : Nat} {Q : X → St → Option (Vals [i4])} {e : List LV} {h : List Blk} : runT tt Γ117 (T117 N) c117_2 Q ⟨e, h⟩ = runT tt Γ117 (T117 N) (cut [true, false, true, true, true] (Tryz.f117.body.getD .skip)) Q ⟨e, h⟩ := rfl
theorem r117_l2 (N : Nat) (v2 : Int) (v3 : List (Val Y33)) {k0 : Unit → Option (Vals [i4])} {Q : X → St → Option (Vals [i4])} {c : Code} (hc : c = c117_2) (hret : ∀ st, Q .ret st = retS tt true [i4] [.tmp 2] st) (h0 : Q (.exit 0) ⟨[u, .one (.ptr 0 0 0), u, u, u, u, u, u, u, u, u, u, u, u, u, u, u, u, u, u, u, u, u, u, u, u, u, u, u, u, u, u, u, u, u, u, u, u], [.box [.int .i64 v2, .sl 33 Y33 v3 1]]⟩ = k0 ()) : ∀ (n : Nat) (v1 : Int), loopR (runT tt Γ117 (T117 N) c) false nl117_2 Q n ⟨[u, .one (.ptr 0 0 0), u, .one (.int .i64 v1), u, u, u, u, u, u, u, u, u, u, u, u, u, u, u, u, u, u, u, u, u, u, u, u, u, u, u, u, u, u, u, u, u, u], [.box [.int .i64 v2, .sl 33 Y33 v3 1]]⟩ = m117_l2 N v2 v3 k0 n v1 := by
  subst hc; intro n; induction n with
  | zero => intros; rfl
  | succ n ih =>
    intro v1
    rw [loop_succ, c117_2_at, m117_l2]; unfold Tryz.f117
    simp (maxSteps := 10000000) -implicitDefEqProofs [T117_tr, tr117, T117_lp, lp117, T117_ex, ex117, T117_rg, rg117, T117_jn, jn117, T117_fuel, T117_pins, nl117_2_fix, nl117_2_keep, nl117_2_zero, nx117_0_fix, nx117_0_keep, nx117_0_zero, Γ117_104, Γ117_118, g104, g118, hret, h0, ih]
theorem run117 (N : Nat) (v0 : Val Y50) : runT tt Γ117 (T117 N) (Tryz.f117.body.getD .skip) (retR tt true [i4] [.tmp 2]) (entryP [i50] 38 (v0, ())) = m117 N v0 := by
  unfold Tryz.f117
  simp (maxSteps := 10000000) -implicitDefEqProofs [T117_tr, tr117, T117_lp, lp117, T117_ex, ex117, T117_rg, rg117, T117_jn, jn117, T117_fuel, T117_pins, nl117_2_fix, nl117_2_keep, nl117_2_zero, nx117_0_fix, nx117_0_keep, nx117_0_zero, Γ117_104, Γ117_118, g104, g118]
  rewrite [r117_l2 (k0 := (fun (_ : Unit) => bif ((inR (v0.1 : Int) (0 : Int) (4 : Int)) : Bool) then (some ((decide (((v0.2 : List (Val Y33)).length : Int) ≤ (12 : Int))), ())) else (some (false, ())))) N _ _ ?_ ?_ ?_]
  · rewrite [m117]; first | rfl | simp (maxSteps := 10000000) -implicitDefEqProofs []
  · rfl
  · intro; simp only [seqR_ret, blockR_ret, retR_ret, retX_ret]
  · simp (maxSteps := 10000000) -implicitDefEqProofs [T117_tr, tr117, T117_lp, lp117, T117_ex, ex117, T117_rg, rg117, T117_jn, jn117, T117_fuel, T117_pins, nl117_2_fix, nl117_2_keep, nl117_2_zero, nx117_0_fix, nx117_0_keep, nx117_0_zero, Γ117_104, Γ117_118, g104, g118]
noncomputable def m124_l4 (N : Nat) (v1 : List (Val Y33)) (v2 : Int) (v4 : Int) (v5 : List (Val Y33)) (k0 : Unit → Option (Vals [i4])) : Nat → Int → Option (Vals [i4])
  | 0, _ => none
  | n + 1, v3 => bif (decide (v3 < v2)) then (chk (0 ≤ v3 ∧ v3 < (v1.length : Int)) (bif (!((isCell (v1.getD v3.toNat (dflt Y33))) : Bool)) then (some (false, ())) else (bif (!(decide (((v1.getD v3.toNat (dflt Y33)).1 : Int) = v4))) then (some (false, ())) else (m124_l4 N v1 v2 v4 v5 k0 n (IntKind.i64.wrap (v3 + (1 : Int))))))) else (k0 ())
noncomputable def m124 (N : Nat) (v0 : Val Y50) : Option (Vals [i4]) := bif (decide ((v0.1 : Int) < (0 : Int))) then (some (false, ())) else (bif (decide ((4 : Int) < (v0.1 : Int))) then (some (false, ())) else (bif (decide ((12 : Int) < ((v0.2 : List (Val Y33)).length : Int))) then (some (false, ())) else (m124_l4 N (v0.2 : List (Val Y33)) ((v0.2 : List (Val Y33)).length : Int) (v0.1 : Int) (v0.2 : List (Val Y33)) (fun (_ : Unit) => some (true, ())) N (0 : Int))))
def Γ124 : Gam := [(199, g199)]
theorem Γ124_199 : Gam.get Γ124 199 = some g199 := rfl
def nl124_4 : Nm := ⟨[false, true, false, false, false, false, false, false, false, false, false, false, false, false, false, false, false, false, false, false, true, true, true], [], false⟩
theorem nl124_4_zero : nl124_4.zero = false := rfl
theorem nl124_4_fix : nl124_4.fix = [] := rfl
theorem nl124_4_keep : nl124_4.keep = [false, true, false, false, false, false, false, false, false, false, false, false, false, false, false, false, false, false, false, false, true, true, true] := rfl
def nx124_0 : Nm := ⟨[], [], false⟩
theorem nx124_0_zero : nx124_0.zero = false := rfl
theorem nx124_0_fix : nx124_0.fix = [] := rfl
theorem nx124_0_keep : nx124_0.keep = [] := rfl
def tr124 : Nat → Tree := fun _ => .done
def lp124 : Nat → Nm := fun i => if i = 4 then nl124_4 else ⟨[], [], false⟩
def jn124 : Nat → Option Jn := fun _ => none
def ex124 : Nat → Option Nm := fun i => if i = 0 then some nx124_0 else none
def rg124 : Nat → Option Nm := fun _ => none
theorem p124 : plansOk tr124 (Tryz.f124.body.getD .skip) = true := by kernel_rfl
def T124 (N : Nat) : Tab := { tr := tr124, lp := lp124, ex := ex124, rg := rg124, jn := jn124, fuel := N }
theorem T124_pins (N : Nat) : (T124 N).pins = false := rfl
theorem tb124 (N : Nat) : TbOk Tryz.prog (T124 N) := tb_none fun _ => rfl
theorem T124_tr (N : Nat) (i : Nat) : (T124 N).tr i = tr124 i := rfl
theorem T124_lp (N : Nat) (i : Nat) : (T124 N).lp i = lp124 i := rfl
theorem T124_ex (N : Nat) (i : Nat) : (T124 N).ex i = ex124 i := rfl
theorem T124_rg (N : Nat) (i : Nat) : (T124 N).rg i = rg124 i := rfl
theorem T124_jn (N : Nat) (i : Nat) : (T124 N).jn i = jn124 i := rfl
theorem T124_fuel (N : Nat) : (T124 N).fuel = N := rfl
noncomputable def c124_4 : Code := cut [true, true, false, true, true, true] (Tryz.f124.body.getD .skip)
theorem c124_4_at {N : Nat} {Q : X → St → Option (Vals [i4])} {e : List LV} {h : List Blk} : runT tt Γ124 (T124 N) c124_4 Q ⟨e, h⟩ = runT tt Γ124 (T124 N) (cut [true, true, false, true, true, true] (Tryz.f124.body.getD .skip)) Q ⟨e, h⟩ := rfl
theorem r124_l4 (N : Nat) (v1 : List (Val Y33)) (v2 : Int) (v4 : Int) (v5 : List (Val Y33)) {k0 : Unit → Option (Vals [i4])} {Q : X → St → Option (Vals [i4])} {c : Code} (hc : c = c124_4) (hret : ∀ st, Q .ret st = retS tt true [i4] [.tmp 2] st) (h0 : Q (.exit 0) ⟨[u, u, u, u, u, u, u, u, u, u, u, u, u, u, u, u, u, u, u, u, u, u, u, u, u, u, u, u, u, u, u, u, u, u, u, u, u], []⟩ = k0 ()) : ∀ (n : Nat) (v3 : Int), loopR (runT tt Γ124 (T124 N) c) false nl124_4 Q n ⟨[u, .one (.ptr 0 0 0), u, u, u, u, u, u, u, u, u, u, u, u, u, u, u, u, u, u, .one (.sl 33 Y33 v1 1), .one (.int .i64 v2), .one (.int .i64 v3), u, u, u, u, u, u, u, u, u, u, u, u, u, u], [.box [.int .i64 v4, .sl 33 Y33 v5 1]]⟩ = m124_l4 N v1 v2 v4 v5 k0 n v3 := by
  subst hc; intro n; induction n with
  | zero => intros; rfl
  | succ n ih =>
    intro v3
    rw [loop_succ, c124_4_at, m124_l4]; unfold Tryz.f124
    simp (maxSteps := 10000000) -implicitDefEqProofs [T124_tr, tr124, T124_lp, lp124, T124_ex, ex124, T124_rg, rg124, T124_jn, jn124, T124_fuel, T124_pins, nl124_4_fix, nl124_4_keep, nl124_4_zero, nx124_0_fix, nx124_0_keep, nx124_0_zero, Γ124_199, g199, hret, h0, ih]
theorem run124 (N : Nat) (v0 : Val Y50) : runT tt Γ124 (T124 N) (Tryz.f124.body.getD .skip) (retR tt true [i4] [.tmp 2]) (entryP [i50] 37 (v0, ())) = m124 N v0 := by
  unfold Tryz.f124
  simp (maxSteps := 10000000) -implicitDefEqProofs [T124_tr, tr124, T124_lp, lp124, T124_ex, ex124, T124_rg, rg124, T124_jn, jn124, T124_fuel, T124_pins, nl124_4_fix, nl124_4_keep, nl124_4_zero, nx124_0_fix, nx124_0_keep, nx124_0_zero, Γ124_199, g199]
  rewrite [r124_l4 (k0 := (fun (_ : Unit) => some (true, ()))) N _ _ _ _ ?_ ?_ ?_]
  · rewrite [m124]; first | rfl | simp (maxSteps := 10000000) -implicitDefEqProofs []
  · rfl
  · intro; simp only [seqR_ret, blockR_ret, retR_ret, retX_ret]
  · simp (maxSteps := 10000000) -implicitDefEqProofs [T124_tr, tr124, T124_lp, lp124, T124_ex, ex124, T124_rg, rg124, T124_jn, jn124, T124_fuel, T124_pins, nl124_4_fix, nl124_4_keep, nl124_4_zero, nx124_0_fix, nx124_0_keep, nx124_0_zero, Γ124_199, g199]
def g117 : G := { ps := [i50], rs := [i4], dp := true, pre := fun x => isReg_pre x.1, fn := fun x => (isReg x.1, ()) }
def g124 : G := { ps := [i50], rs := [i4], dp := true, pre := fun _ => True, fn := fun x => (isReg x.1, ()) }
def addV (r : Val Y50) (c : Val Y33) : Val Y50 × Bool := bif (minV c).2 then (bif isNoneC (minV c).1 then (r, true) else (bif decide (12 ≤ (List.length (α := Val Y33) r.2 : Int)) then (r, false) else ((r.1, (r.2 : List (Val Y33)) ++ [(minV c).1]), true))) else (r, false)
def addV_v (r : Val Y50) (c : Val Y33) : Val Y50 := (addV r c).1
def addV_r (r : Val Y50) (c : Val Y33) : Bool := (addV r c).2
def addV_pre (r : Val Y50) (_ : Val Y33) : Prop := List.length (α := Val Y33) r.2 ≤ 12
def gb222 : Gb := { t := i50, ps := [i33], rs := [i4], pre := fun v x => addV_pre v x.1, fv := fun v x => addV_v v x.1, fn := fun v x => (addV_r v x.1, ()) }
noncomputable def m222 (N : Nat) (v0 : Val Y50) (v1 : Val Y33) : Option (Val Y50 × Vals [i4]) := bif (!((minV v1).2 : Bool)) then (some (v0, (false, ()))) else (chk (isNoneC_pre ((((minV v1).1).1 : Int), (((minV v1).1).2 : List (Val Y108)))) (bif ((isNoneC ((((minV v1).1).1 : Int), (((minV v1).1).2 : List (Val Y108)))) : Bool) then (some (v0, (true, ()))) else (bif (decide ((12 : Int) ≤ ((v0.2 : List (Val Y33)).length : Int))) then (some (v0, (false, ()))) else (chk ((v0.2 : List (Val Y33)).length + ([((((minV v1).1).1 : Int), (((minV v1).1).2 : List (Val Y108)))] : List (Val Y33)).length ≤ 1048576) (some (((v0.1 : Int), ((v0.2 : List (Val Y33)) ++ ([((((minV v1).1).1 : Int), (((minV v1).1).2 : List (Val Y108)))] : List (Val Y33)))), (true, ())))))))
def Γ222 : Gam := [(138, g138), (240, g240)]
theorem Γ222_138 : Gam.get Γ222 138 = some g138 := rfl
theorem Γ222_240 : Gam.get Γ222 240 = some g240 := rfl
def nr222_8 : Nm := ⟨[], [], false⟩
theorem nr222_8_zero : nr222_8.zero = false := rfl
theorem nr222_8_fix : nr222_8.fix = [] := rfl
theorem nr222_8_keep : nr222_8.keep = [] := rfl
def tr222 : Nat → Tree := fun i => if i = 8 then .quiet 5 (.first 0 (.first 1 (.alt 2 (.alt 3 (.alt 4 (.alt 6 (.alt 7 (.quiet 8 (.quiet 9 (.alt 10 .done .stop))) .stop) .stop) (.alt 6 (.quiet 4 (.alt 7 (.quiet 8 (.quiet 9 (.alt 10 .done .stop))) .stop)) .stop)) (.alt 6 (.quiet 3 (.quiet 4 (.alt 7 (.quiet 8 (.quiet 9 (.alt 10 .done .stop))) .stop))) .stop)) (.alt 6 (.quiet 2 (.quiet 3 (.quiet 4 (.alt 7 (.quiet 8 (.quiet 9 (.alt 10 .done .stop))) .stop)))) .stop)))) else .done
def lp222 : Nat → Nm := fun _ => ⟨[], [], false⟩
def jn222 : Nat → Option Jn := fun _ => none
def ex222 : Nat → Option Nm := fun _ => none
def rg222 : Nat → Option Nm := fun i => if i = 8 then some nr222_8 else none
theorem p222 : plansOk tr222 (Tryz.f222.body.getD .skip) = true := by kernel_rfl
def T222 (N : Nat) : Tab := { tr := tr222, lp := lp222, ex := ex222, rg := rg222, jn := jn222, fuel := N, pins := true }
theorem T222_pins (N : Nat) : (T222 N).pins = true := rfl
theorem tb222 (N : Nat) : TbOk Tryz.prog (T222 N) := tb_none fun _ => rfl
theorem T222_tr (N : Nat) (i : Nat) : (T222 N).tr i = tr222 i := rfl
theorem T222_lp (N : Nat) (i : Nat) : (T222 N).lp i = lp222 i := rfl
theorem T222_ex (N : Nat) (i : Nat) : (T222 N).ex i = ex222 i := rfl
theorem T222_rg (N : Nat) (i : Nat) : (T222 N).rg i = rg222 i := rfl
theorem T222_jn (N : Nat) (i : Nat) : (T222 N).jn i = jn222 i := rfl
theorem T222_fuel (N : Nat) : (T222 N).fuel = N := rfl
theorem run222 (N : Nat) (v0 : Val Y50) (v1 : Val Y33) : runT tt Γ222 (T222 N) (Tryz.f222.body.getD .skip) (retX (retB tt i50 [i4] [.tmp 4])) (entryB i50 [i33] 32 v0 (v1, ())) = m222 N v0 v1 := by
  rw [m222]; unfold Tryz.f222
  simp (maxSteps := 10000000) -implicitDefEqProofs [T222_tr, tr222, T222_lp, lp222, T222_ex, ex222, T222_rg, rg222, T222_jn, jn222, T222_fuel, T222_pins, retX_ret, retX_normal, nr222_8_fix, nr222_8_keep, nr222_8_zero, Γ222_138, Γ222_240, g138, g240]
  try rfl
def add4V (r : Val Y50) (c : Val Y33) : Val Y50 × Bool := bif (minN (nrmV c.1 c.2)).2 then (bif isNoneC (minN (nrmV c.1 c.2)).1 then (r, true) else ((r.1, (r.2 : List (Val Y33)) ++ [(minN (nrmV c.1 c.2)).1]), decide ((List.length (α := Val Y33) r.2 : Int) + 1 ≤ 12))) else failR
def add4V_pre (r : Val Y50) (c : Val Y33) : Prop := isCell c = true ∧ List.length (α := Val Y33) r.2 ≤ 12
def g143 : G := { ps := [i50, i33], rs := [i50, i4], dp := false, pre := fun x => add4V_pre x.1 x.2.1, fn := fun x => ((add4V x.1 x.2.1).1, (add4V x.1 x.2.1).2, ()) }
noncomputable def m143 (N : Nat) (v0 : Val Y50) (v1 : Val Y33) : Option (Vals [i50, i4]) := chk (nrmV_pre (v1.1 : Int) (v1.2 : List (Val Y108))) (chk (minN_pre (nrmV (v1.1 : Int) (v1.2 : List (Val Y108)))) (bif (!((minN (nrmV (v1.1 : Int) (v1.2 : List (Val Y108)))).2 : Bool)) then (some (((0 : Int), ([] : List (Val Y33))), false, ())) else (bif (decide ((16 : Int) < ((((minN (nrmV (v1.1 : Int) (v1.2 : List (Val Y108)))).1).2 : List (Val Y108)).length : Int))) then (some (((0 : Int), ([] : List (Val Y33))), false, ())) else (bif (decide (((((minN (nrmV (v1.1 : Int) (v1.2 : List (Val Y108)))).1).2 : List (Val Y108)).length : Int) = (1 : Int))) then (chk (0 ≤ (0 : Int) ∧ (0 : Int) < ((((minN (nrmV (v1.1 : Int) (v1.2 : List (Val Y108)))).1).2 : List (Val Y108)).length : Int)) (chk ((0 : Int).toNat < (((minN (nrmV (v1.1 : Int) (v1.2 : List (Val Y108)))).1).2 : List (Val Y108)).length) (chk (ncon_pre ((((minN (nrmV (v1.1 : Int) (v1.2 : List (Val Y108)))).1).2 : List (Val Y108)).getD ((0 : Int).toNat) (dflt Y108))) (bif ((ncon ((((minN (nrmV (v1.1 : Int) (v1.2 : List (Val Y108)))).1).2 : List (Val Y108)).getD ((0 : Int).toNat) (dflt Y108))) : Bool) then (some (v0, true, ())) else (chk (([] : List (Val Y33)).length + (v0.2 : List (Val Y33)).length ≤ 1048576) (chk ((([] : List (Val Y33)) ++ (v0.2 : List (Val Y33))).length + ([((((minN (nrmV (v1.1 : Int) (v1.2 : List (Val Y108)))).1).1 : Int), (((minN (nrmV (v1.1 : Int) (v1.2 : List (Val Y108)))).1).2 : List (Val Y108)))] : List (Val Y33)).length ≤ 1048576) (some (((v0.1 : Int), ((([] : List (Val Y33)) ++ (v0.2 : List (Val Y33))) ++ ([((((minN (nrmV (v1.1 : Int) (v1.2 : List (Val Y108)))).1).1 : Int), (((minN (nrmV (v1.1 : Int) (v1.2 : List (Val Y108)))).1).2 : List (Val Y108)))] : List (Val Y33)))), (decide ((((([] : List (Val Y33)) ++ (v0.2 : List (Val Y33))) ++ ([((((minN (nrmV (v1.1 : Int) (v1.2 : List (Val Y108)))).1).1 : Int), (((minN (nrmV (v1.1 : Int) (v1.2 : List (Val Y108)))).1).2 : List (Val Y108)))] : List (Val Y33))).length : Int) ≤ (12 : Int))), ())))))))) else (chk (([] : List (Val Y33)).length + (v0.2 : List (Val Y33)).length ≤ 1048576) (chk ((([] : List (Val Y33)) ++ (v0.2 : List (Val Y33))).length + ([((((minN (nrmV (v1.1 : Int) (v1.2 : List (Val Y108)))).1).1 : Int), (((minN (nrmV (v1.1 : Int) (v1.2 : List (Val Y108)))).1).2 : List (Val Y108)))] : List (Val Y33)).length ≤ 1048576) (some (((v0.1 : Int), ((([] : List (Val Y33)) ++ (v0.2 : List (Val Y33))) ++ ([((((minN (nrmV (v1.1 : Int) (v1.2 : List (Val Y108)))).1).1 : Int), (((minN (nrmV (v1.1 : Int) (v1.2 : List (Val Y108)))).1).2 : List (Val Y108)))] : List (Val Y33)))), (decide ((((([] : List (Val Y33)) ++ (v0.2 : List (Val Y33))) ++ ([((((minN (nrmV (v1.1 : Int) (v1.2 : List (Val Y108)))).1).1 : Int), (((minN (nrmV (v1.1 : Int) (v1.2 : List (Val Y108)))).1).2 : List (Val Y108)))] : List (Val Y33))).length : Int) ≤ (12 : Int))), ()))))))))
def Γ143 : Gam := [(150, g150), (217, g217), (229, g229)]
theorem Γ143_150 : Gam.get Γ143 150 = some g150 := rfl
theorem Γ143_217 : Gam.get Γ143 217 = some g217 := rfl
theorem Γ143_229 : Gam.get Γ143 229 = some g229 := rfl
def nr143_6 : Nm := ⟨[false, false, false, false, true, false, false, false, true], [], false⟩
theorem nr143_6_zero : nr143_6.zero = false := rfl
theorem nr143_6_fix : nr143_6.fix = [] := rfl
theorem nr143_6_keep : nr143_6.keep = [false, false, false, false, true, false, false, false, true] := rfl
def nr143_7 : Nm := ⟨[false, false, false, false, true, true], [], false⟩
theorem nr143_7_zero : nr143_7.zero = false := rfl
theorem nr143_7_fix : nr143_7.fix = [] := rfl
theorem nr143_7_keep : nr143_7.keep = [false, false, false, false, true, true] := rfl
def tr143 : Nat → Tree := fun i => if i = 6 then .keep 0 (.keep 1 (.keep 3 (.keep 4 (.keep 6 (.alt 2 (.alt 5 (.alt 7 (.alt 8 (.first 9 (.alt 10 (.alt 11 .done .stop) .stop)) (.alt 10 (.alt 8 (.quiet 9 (.alt 11 .done .stop)) .stop) .stop)) (.alt 10 (.alt 7 (.alt 8 (.quiet 9 (.alt 11 .done .stop)) .stop) .stop) .stop)) (.alt 7 (.alt 5 (.alt 8 (.first 9 (.alt 10 (.alt 11 .done .stop) .stop)) (.alt 10 (.alt 8 (.quiet 9 (.alt 11 .done .stop)) .stop) .stop)) (.alt 10 (.alt 5 (.alt 8 (.quiet 9 (.alt 11 .done .stop)) .stop) .stop) .stop)) (.alt 10 (.alt 5 (.alt 7 (.alt 8 (.quiet 9 (.alt 11 .done .stop)) .stop) .stop) (.alt 7 (.alt 5 (.alt 8 (.quiet 9 (.alt 11 .done .stop)) .stop) .stop) .stop)) .stop))) (.alt 7 (.alt 2 (.alt 5 (.alt 8 (.first 9 (.alt 10 (.alt 11 .done .stop) .stop)) (.alt 10 (.alt 8 (.quiet 9 (.alt 11 .done .stop)) .stop) .stop)) (.alt 10 (.alt 5 (.alt 8 (.quiet 9 (.alt 11 .done .stop)) .stop) .stop) .stop)) (.alt 10 (.alt 2 (.alt 5 (.alt 8 (.quiet 9 (.alt 11 .done .stop)) .stop) .stop) .stop) .stop)) (.alt 10 (.alt 2 (.alt 5 (.alt 7 (.alt 8 (.quiet 9 (.alt 11 .done .stop)) .stop) .stop) (.alt 7 (.alt 5 (.alt 8 (.quiet 9 (.alt 11 .done .stop)) .stop) .stop) .stop)) (.alt 7 (.alt 2 (.alt 5 (.alt 8 (.quiet 9 (.alt 11 .done .stop)) .stop) .stop) .stop) .stop)) .stop))))))) else if i = 7 then .quiet 0 (.alt 1 (.alt 2 (.alt 3 (.first 4 (.alt 5 (.quiet 6 .done) .stop)) (.alt 5 (.quiet 3 (.quiet 4 (.quiet 6 .done))) .stop)) (.alt 5 (.quiet 2 (.quiet 3 (.quiet 4 (.quiet 6 .done)))) .stop)) (.alt 5 (.quiet 1 (.quiet 2 (.quiet 3 (.quiet 4 (.quiet 6 .done))))) .stop)) else .done
def lp143 : Nat → Nm := fun _ => ⟨[], [], false⟩
def jn143 : Nat → Option Jn := fun _ => none
def ex143 : Nat → Option Nm := fun _ => none
def rg143 : Nat → Option Nm := fun i => if i = 6 then some nr143_6 else if i = 7 then some nr143_7 else none
theorem p143 : plansOk tr143 (Tryz.f143.body.getD .skip) = true := by kernel_rfl
def T143 (N : Nat) : Tab := { tr := tr143, lp := lp143, ex := ex143, rg := rg143, jn := jn143, fuel := N }
theorem T143_pins (N : Nat) : (T143 N).pins = false := rfl
theorem tb143 (N : Nat) : TbOk Tryz.prog (T143 N) := tb_none fun _ => rfl
theorem T143_tr (N : Nat) (i : Nat) : (T143 N).tr i = tr143 i := rfl
theorem T143_lp (N : Nat) (i : Nat) : (T143 N).lp i = lp143 i := rfl
theorem T143_ex (N : Nat) (i : Nat) : (T143 N).ex i = ex143 i := rfl
theorem T143_rg (N : Nat) (i : Nat) : (T143 N).rg i = rg143 i := rfl
theorem T143_jn (N : Nat) (i : Nat) : (T143 N).jn i = jn143 i := rfl
theorem T143_fuel (N : Nat) : (T143 N).fuel = N := rfl
theorem run143 (N : Nat) (v0 : Val Y50) (v1 : Val Y33) : runT tt Γ143 (T143 N) (Tryz.f143.body.getD .skip) (retR tt false [i50, i4] [.cell 4 50, .tmp 5]) (entryP [i50, i33] 54 (v0, v1, ())) = m143 N v0 v1 := by
  rw [m143]; unfold Tryz.f143
  simp (maxSteps := 10000000) -implicitDefEqProofs [T143_tr, tr143, T143_lp, lp143, T143_ex, ex143, T143_rg, rg143, T143_jn, jn143, T143_fuel, T143_pins, nr143_6_fix, nr143_6_keep, nr143_6_zero, nr143_7_fix, nr143_7_keep, nr143_7_zero, Γ143_150, Γ143_217, Γ143_229, g150, g217, g229]
  try rfl
end Go.T
