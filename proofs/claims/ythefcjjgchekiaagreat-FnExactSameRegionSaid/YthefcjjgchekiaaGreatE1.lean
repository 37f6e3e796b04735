/- Emptiness; what cells imply: run. -/
import Derived.Test.YthefcjjgchekiaaGreatE0
set_option linter.unusedSimpArgs false
set_option linter.unusedVariables false
namespace Go.T
open Go Go.Proofs
set_option maxHeartbeats 4000000
set_option maxRecDepth 100000
def empV (c : Val Y33) : Bool × Bool := bif isCell c then (match dropAll (-1) (c.1 : Int).toNat (nrmV c.1 c.2) with
  | some y => (decide ((0 : Int) < (List.length (α := Val Y108) y.2 : Int)), true)
  | none => (false, false)) else (false, false)
def empV_pre (c : Val Y33) : Prop := isCell_pre c
def projL : Nat → Val Y33 → Option (List (Val Y33))
  | 0, x => some [x]
  | k + 1, x => bif (dropL x k).2 then (match projL k (dropL x k).1 with
    | some l => some (l ++ [x])
    | none => none) else none
def projV (c : Val Y33) : List (Val Y33) × Bool := bif isCell c then (match projL (c.1 : Int).toNat (nrmV c.1 c.2) with
  | some l => (l, true)
  | none => ([], false)) else ([], false)
def oneA (n : Val Y108) (d : Int) : Val Y33 := (d, [n])
def impV (c : Val Y33) (a : Val Y108) : Bool × Bool := bif (negV a).2 && (meetV c (oneA (negV a).1 (List.length (α := Int) a.1 : Int))).2 then empV (meetV c (oneA (negV a).1 (List.length (α := Int) a.1 : Int))).1 else (false, false)
def impV_pre (c : Val Y33) (a : Val Y108) : Prop := isCell_pre c ∧ idA_pre a
def g225 : G := { ps := [i33], rs := [i48, i4], dp := true, pre := fun _ => True, fn := fun x => ((projV x.1).1, (projV x.1).2, ()) }
def g212 : G := { ps := [i33], rs := [i4, i4], dp := true, pre := fun _ => True, fn := fun x => ((empV x.1).1, (empV x.1).2, ()) }
def g208 : G := { ps := [i33], rs := [i4, i4], dp := true, pre := fun x => empV_pre x.1, fn := fun x => ((empV x.1).1, (empV x.1).2, ()) }
noncomputable def m225_l6 (N : Nat)  (k0 : (List (Val Y33)) → Option (Vals [i48, i4])) : Nat → Int → (List (Val Y33)) → Option (Vals [i48, i4])
  | 0, _, _ => none
  | n + 1, v1, v2 => bif (decide ((0 : Int) ≤ v1)) then (chk (0 ≤ (IntKind.i64.wrap (v1 + (1 : Int))) ∧ (IntKind.i64.wrap (v1 + (1 : Int))) < (v2.length : Int)) (chk ((IntKind.i64.wrap (v1 + (1 : Int))).toNat < v2.length) (bif (!((dropV (v2.getD ((IntKind.i64.wrap (v1 + (1 : Int))).toNat) (dflt Y33)) v1).2 : Bool)) then (some (([] : List (Val Y33)), false, ())) else (chk (0 ≤ v1 ∧ v1 < (v2.length : Int)) (chk (v1.toNat < v2.length) (m225_l6 N  k0 n (IntKind.i64.wrap (v1 - (1 : Int))) (v2.set v1.toNat ((((dropV (v2.getD ((IntKind.i64.wrap (v1 + (1 : Int))).toNat) (dflt Y33)) v1).1).1 : Int), (((dropV (v2.getD ((IntKind.i64.wrap (v1 + (1 : Int))).toNat) (dflt Y33)) v1).1).2 : List (Val Y108)))))))))) else (k0 v2)
noncomputable def m225 (N : Nat) (v0 : Val Y33) : Option (Vals [i48, i4]) := bif (!((isCell v0) : Bool)) then (some (([] : List (Val Y33)), false, ())) else (chk (0 ≤ (IntKind.i64.wrap ((v0.1 : Int) + (1 : Int))) ∧ (IntKind.i64.wrap ((v0.1 : Int) + (1 : Int))) ≤ (IntKind.i64.wrap ((v0.1 : Int) + (1 : Int))) ∧ (IntKind.i64.wrap ((v0.1 : Int) + (1 : Int))) ≤ 1048576) (chk (nrmV_pre (v0.1 : Int) (v0.2 : List (Val Y108))) (chk (0 ≤ (v0.1 : Int) ∧ (v0.1 : Int) < ((List.replicate (IntKind.i64.wrap ((v0.1 : Int) + (1 : Int))).toNat (dflt Y33)).length : Int)) (chk ((v0.1 : Int).toNat < (List.replicate (IntKind.i64.wrap ((v0.1 : Int) + (1 : Int))).toNat (dflt Y33)).length) (m225_l6 N  (fun (v4 : List (Val Y33)) => some (v4, true, ())) N (IntKind.i64.wrap ((v0.1 : Int) - (1 : Int))) ((List.replicate (IntKind.i64.wrap ((v0.1 : Int) + (1 : Int))).toNat (dflt Y33)).set ((v0.1 : Int).toNat) (((nrmV (v0.1 : Int) (v0.2 : List (Val Y108))).1 : Int), ((nrmV (v0.1 : Int) (v0.2 : List (Val Y108))).2 : List (Val Y108)))))))))
def Γ225 : Gam := [(199, g199), (230, g230), (237, g237)]
theorem Γ225_199 : Gam.get Γ225 199 = some g199 := rfl
theorem Γ225_230 : Gam.get Γ225 230 = some g230 := rfl
theorem Γ225_237 : Gam.get Γ225 237 = some g237 := rfl
def nl225_6 : Nm := ⟨[false, false, false, false, true, true], [], false⟩
theorem nl225_6_zero : nl225_6.zero = false := rfl
theorem nl225_6_fix : nl225_6.fix = [] := rfl
theorem nl225_6_keep : nl225_6.keep = [false, false, false, false, true, true] := rfl
def nx225_0 : Nm := ⟨[false, false, false, false, true], [], false⟩
theorem nx225_0_zero : nx225_0.zero = false := rfl
theorem nx225_0_fix : nx225_0.fix = [] := rfl
theorem nx225_0_keep : nx225_0.keep = [false, false, false, false, true] := rfl
def nr225_4 : Nm := ⟨[false, true, false, false, true], [], false⟩
theorem nr225_4_zero : nr225_4.zero = false := rfl
theorem nr225_4_fix : nr225_4.fix = [] := rfl
theorem nr225_4_keep : nr225_4.keep = [false, true, false, false, true] := rfl
def tr225 : Nat → Tree := fun i => if i = 4 then .quiet 3 (.quiet 4 (.quiet 5 (.quiet 6 (.first 0 (.alt 1 (.alt 2 (.alt 7 (.quiet 8 (.alt 9 .done .stop)) .stop) (.alt 7 (.quiet 2 (.quiet 8 (.alt 9 .done .stop))) .stop)) (.alt 7 (.quiet 1 (.quiet 2 (.quiet 8 (.alt 9 .done .stop)))) .stop)))))) else .done
def lp225 : Nat → Nm := fun i => if i = 6 then nl225_6 else ⟨[], [], false⟩
def jn225 : Nat → Option Jn := fun _ => none
def ex225 : Nat → Option Nm := fun i => if i = 0 then some nx225_0 else none
def rg225 : Nat → Option Nm := fun i => if i = 4 then some nr225_4 else none
theorem p225 : plansOk tr225 (Tryz.f225.body.getD .skip) = true := by kernel_rfl
def T225 (N : Nat) : Tab := { tr := tr225, lp := lp225, ex := ex225, rg := rg225, jn := jn225, fuel := N }
theorem T225_pins (N : Nat) : (T225 N).pins = false := rfl
theorem tb225 (N : Nat) : TbOk Tryz.prog (T225 N) := tb_none fun _ => rfl
theorem T225_tr (N : Nat) (i : Nat) : (T225 N).tr i = tr225 i := rfl
theorem T225_lp (N : Nat) (i : Nat) : (T225 N).lp i = lp225 i := rfl
theorem T225_ex (N : Nat) (i : Nat) : (T225 N).ex i = ex225 i := rfl
theorem T225_rg (N : Nat) (i : Nat) : (T225 N).rg i = rg225 i := rfl
theorem T225_jn (N : Nat) (i : Nat) : (T225 N).jn i = jn225 i := rfl
theorem T225_fuel (N : Nat) : (T225 N).fuel = N := rfl
noncomputable def c225_6 : Code := cut [true, true, true, true, false, true, true, true] (Tryz.f225.body.getD .skip)
theorem c225_6_at {N : Nat} {Q : X → St → Option (Vals [i48, i4])} {e : List LV} {h : List Blk} : runT tt Γ225 (T225 N) c225_6 Q ⟨e, h⟩ = runT tt Γ225 (T225 N) (cut [true, true, true, true, false, true, true, true] (Tryz.f225.body.getD .skip)) Q ⟨e, h⟩ := rfl
theorem r225_l6 (N : Nat)  {k0 : (List (Val Y33)) → Option (Vals [i48, i4])} {Q : X → St → Option (Vals [i48, i4])} {c : Code} (hc : c = c225_6) (hret : ∀ st, Q .ret st = retS tt true [i48, i4] [.tmp 2, .tmp 3] st) (h0 : ∀ (v3 : List (Val Y33)), Q (.exit 0) ⟨[u, u, u, u, .one (.own 0), u, u, u, u, u, u, u, u, u, u, u, u, u, u, u, u, u, u, u, u, u, u, u, u, u, u, u, u, u, u, u, u, u, u, u, u, u, u, u, u, u, u, u], [.row 33 Y33 v3 true true 0]⟩ = k0 v3) : ∀ (n : Nat) (v1 : Int) (v2 : List (Val Y33)), loopR (runT tt Γ225 (T225 N) c) false nl225_6 Q n ⟨[u, u, u, u, .one (.own 0), .one (.int .i64 v1), u, u, u, u, u, u, u, u, u, u, u, u, u, u, u, u, u, u, u, u, u, u, u, u, u, u, u, u, u, u, u, u, u, u, u, u, u, u, u, u, u, u], [.row 33 Y33 v2 true true 0]⟩ = m225_l6 N  k0 n v1 v2 := by
  subst hc; intro n; induction n with
  | zero => intros; rfl
  | succ n ih =>
    intro v1 v2
    rw [loop_succ, c225_6_at, m225_l6]; unfold Tryz.f225
    simp (maxSteps := 10000000) -implicitDefEqProofs [T225_tr, tr225, T225_lp, lp225, T225_ex, ex225, T225_rg, rg225, T225_jn, jn225, T225_fuel, T225_pins, nl225_6_fix, nl225_6_keep, nl225_6_zero, nx225_0_fix, nx225_0_keep, nx225_0_zero, nr225_4_fix, nr225_4_keep, nr225_4_zero, Γ225_199, Γ225_230, Γ225_237, g199, g230, g237, hret, h0, ih]
theorem run225 (N : Nat) (v0 : Val Y33) : runT tt Γ225 (T225 N) (Tryz.f225.body.getD .skip) (retR tt true [i48, i4] [.tmp 2, .tmp 3]) (entryP [i33] 48 (v0, ())) = m225 N v0 := by
  unfold Tryz.f225
  simp (maxSteps := 10000000) -implicitDefEqProofs [T225_tr, tr225, T225_lp, lp225, T225_ex, ex225, T225_rg, rg225, T225_jn, jn225, T225_fuel, T225_pins, nl225_6_fix, nl225_6_keep, nl225_6_zero, nx225_0_fix, nx225_0_keep, nx225_0_zero, nr225_4_fix, nr225_4_keep, nr225_4_zero, Γ225_199, Γ225_230, Γ225_237, g199, g230, g237]
  rewrite [r225_l6 (k0 := (fun (v4 : List (Val Y33)) => some (v4, true, ()))) N  ?_ ?_ ?_]
  · rewrite [m225]; first | rfl | simp (maxSteps := 10000000) -implicitDefEqProofs []
  · rfl
  · intro; simp only [seqR_ret, blockR_ret, retR_ret, retX_ret]
  · intro v4; simp (maxSteps := 10000000) -implicitDefEqProofs [T225_tr, tr225, T225_lp, lp225, T225_ex, ex225, T225_rg, rg225, T225_jn, jn225, T225_fuel, T225_pins, nl225_6_fix, nl225_6_keep, nl225_6_zero, nx225_0_fix, nx225_0_keep, nx225_0_zero, nr225_4_fix, nr225_4_keep, nr225_4_zero, Γ225_199, Γ225_230, Γ225_237, g199, g230, g237]
noncomputable def m212 (N : Nat) (v0 : Val Y33) : Option (Vals [i4, i4]) := bif (!((projV v0).2 : Bool)) then (some (false, false, ())) else (chk (0 ≤ (0 : Int) ∧ (0 : Int) < (((projV v0).1 : List (Val Y33)).length : Int)) (chk ((0 : Int).toNat < ((projV v0).1 : List (Val Y33)).length) (some ((decide ((0 : Int) < (((((projV v0).1 : List (Val Y33)).getD ((0 : Int).toNat) (dflt Y33)).2 : List (Val Y108)).length : Int))), true, ()))))
def Γ212 : Gam := [(225, g225)]
theorem Γ212_225 : Gam.get Γ212 225 = some g225 := rfl
def tr212 : Nat → Tree := fun _ => .done
def lp212 : Nat → Nm := fun _ => ⟨[], [], false⟩
def jn212 : Nat → Option Jn := fun _ => none
def ex212 : Nat → Option Nm := fun _ => none
def rg212 : Nat → Option Nm := fun _ => none
theorem p212 : plansOk tr212 (Tryz.f212.body.getD .skip) = true := by kernel_rfl
def T212 (N : Nat) : Tab := { tr := tr212, lp := lp212, ex := ex212, rg := rg212, jn := jn212, fuel := N }
theorem T212_pins (N : Nat) : (T212 N).pins = false := rfl
theorem tb212 (N : Nat) : TbOk Tryz.prog (T212 N) := tb_none fun _ => rfl
theorem T212_tr (N : Nat) (i : Nat) : (T212 N).tr i = tr212 i := rfl
theorem T212_lp (N : Nat) (i : Nat) : (T212 N).lp i = lp212 i := rfl
theorem T212_ex (N : Nat) (i : Nat) : (T212 N).ex i = ex212 i := rfl
theorem T212_rg (N : Nat) (i : Nat) : (T212 N).rg i = rg212 i := rfl
theorem T212_jn (N : Nat) (i : Nat) : (T212 N).jn i = jn212 i := rfl
theorem T212_fuel (N : Nat) : (T212 N).fuel = N := rfl
theorem run212 (N : Nat) (v0 : Val Y33) : runT tt Γ212 (T212 N) (Tryz.f212.body.getD .skip) (retR tt true [i4, i4] [.tmp 2, .tmp 3]) (entryP [i33] 19 (v0, ())) = m212 N v0 := by
  rw [m212]; unfold Tryz.f212
  simp (maxSteps := 10000000) -implicitDefEqProofs [T212_tr, tr212, T212_lp, lp212, T212_ex, ex212, T212_rg, rg212, T212_jn, jn212, T212_fuel, T212_pins, Γ212_225, g225]
  try rfl
noncomputable def m208_l5 (N : Nat)  (k0 : Int → (List (Val Y108)) → Option (Vals [i4, i4])) : Nat → Int → Int → (List (Val Y108)) → Option (Vals [i4, i4])
  | 0, _, _, _ => none
  | n + 1, v1, v2, v3 => bif (decide ((0 : Int) ≤ v1)) then (chk (dropL_pre (v2, v3) v1) (bif (!((dropL (v2, v3) v1).2 : Bool)) then (some (false, false, ())) else (m208_l5 N  k0 n (IntKind.i64.wrap (v1 - (1 : Int))) (((dropL (v2, v3) v1).1).1 : Int) (((dropL (v2, v3) v1).1).2 : List (Val Y108))))) else (k0 v2 v3)
noncomputable def m208 (N : Nat) (v0 : Val Y33) : Option (Vals [i4, i4]) := chk (isCell_pre v0) (bif (!((isCell v0) : Bool)) then (some (false, false, ())) else (chk (nrmV_pre (v0.1 : Int) (v0.2 : List (Val Y108))) (m208_l5 N  (fun (v6 : Int) (v7 : List (Val Y108)) => some ((decide ((0 : Int) < (v7.length : Int))), true, ())) N (IntKind.i64.wrap ((v0.1 : Int) - (1 : Int))) ((nrmV (v0.1 : Int) (v0.2 : List (Val Y108))).1 : Int) ((nrmV (v0.1 : Int) (v0.2 : List (Val Y108))).2 : List (Val Y108)))))
def Γ208 : Gam := [(104, g104), (150, g150), (151, g151)]
theorem Γ208_104 : Gam.get Γ208 104 = some g104 := rfl
theorem Γ208_150 : Gam.get Γ208 150 = some g150 := rfl
theorem Γ208_151 : Gam.get Γ208 151 = some g151 := rfl
def nl208_5 : Nm := ⟨[false, false, false, false, true, true], [], false⟩
theorem nl208_5_zero : nl208_5.zero = false := rfl
theorem nl208_5_fix : nl208_5.fix = [] := rfl
theorem nl208_5_keep : nl208_5.keep = [false, false, false, false, true, true] := rfl
def nx208_0 : Nm := ⟨[false, false, false, false, true], [], false⟩
theorem nx208_0_zero : nx208_0.zero = false := rfl
theorem nx208_0_fix : nx208_0.fix = [] := rfl
theorem nx208_0_keep : nx208_0.keep = [false, false, false, false, true] := rfl
def tr208 : Nat → Tree := fun _ => .done
def lp208 : Nat → Nm := fun i => if i = 5 then nl208_5 else ⟨[], [], false⟩
def jn208 : Nat → Option Jn := fun _ => none
def ex208 : Nat → Option Nm := fun i => if i = 0 then some nx208_0 else none
def rg208 : Nat → Option Nm := fun _ => none
theorem p208 : plansOk tr208 (Tryz.f208.body.getD .skip) = true := by kernel_rfl
def T208 (N : Nat) : Tab := { tr := tr208, lp := lp208, ex := ex208, rg := rg208, jn := jn208, fuel := N }
theorem T208_pins (N : Nat) : (T208 N).pins = false := rfl
theorem tb208 (N : Nat) : TbOk Tryz.prog (T208 N) := tb_none fun _ => rfl
theorem T208_tr (N : Nat) (i : Nat) : (T208 N).tr i = tr208 i := rfl
theorem T208_lp (N : Nat) (i : Nat) : (T208 N).lp i = lp208 i := rfl
theorem T208_ex (N : Nat) (i : Nat) : (T208 N).ex i = ex208 i := rfl
theorem T208_rg (N : Nat) (i : Nat) : (T208 N).rg i = rg208 i := rfl
theorem T208_jn (N : Nat) (i : Nat) : (T208 N).jn i = jn208 i := rfl
theorem T208_fuel (N : Nat) : (T208 N).fuel = N := rfl
noncomputable def c208_5 : Code := cut [true, true, true, false, true, true, true] (Tryz.f208.body.getD .skip)
theorem c208_5_at {N : Nat} {Q : X → St → Option (Vals [i4, i4])} {e : List LV} {h : List Blk} : runT tt Γ208 (T208 N) c208_5 Q ⟨e, h⟩ = runT tt Γ208 (T208 N) (cut [true, true, true, false, true, true, true] (Tryz.f208.body.getD .skip)) Q ⟨e, h⟩ := rfl
theorem r208_l5 (N : Nat)  {k0 : Int → (List (Val Y108)) → Option (Vals [i4, i4])} {Q : X → St → Option (Vals [i4, i4])} {c : Code} (hc : c = c208_5) (hret : ∀ st, Q .ret st = retS tt true [i4, i4] [.tmp 2, .tmp 3] st) (h0 : ∀ (v4 : Int) (v5 : List (Val Y108)), Q (.exit 0) ⟨[u, u, u, u, .one (.ptr 0 0 0), u, u, u, u, u, u, u, u, u, u, u, u, u, u, u, u, u, u, u, u, u, u, u, u, u, u, u, u, u, u, u], [.box [.int .i64 v4, .sl 108 Y108 v5 1]]⟩ = k0 v4 v5) : ∀ (n : Nat) (v1 : Int) (v2 : Int) (v3 : List (Val Y108)), loopR (runT tt Γ208 (T208 N) c) false nl208_5 Q n ⟨[u, u, u, u, .one (.ptr 0 0 0), .one (.int .i64 v1), u, u, u, u, u, u, u, u, u, u, u, u, u, u, u, u, u, u, u, u, u, u, u, u, u, u, u, u, u, u], [.box [.int .i64 v2, .sl 108 Y108 v3 1]]⟩ = m208_l5 N  k0 n v1 v2 v3 := by
  subst hc; intro n; induction n with
  | zero => intros; rfl
  | succ n ih =>
    intro v1 v2 v3
    rw [loop_succ, c208_5_at, m208_l5]; unfold Tryz.f208
    simp (maxSteps := 10000000) -implicitDefEqProofs [T208_tr, tr208, T208_lp, lp208, T208_ex, ex208, T208_rg, rg208, T208_jn, jn208, T208_fuel, T208_pins, nl208_5_fix, nl208_5_keep, nl208_5_zero, nx208_0_fix, nx208_0_keep, nx208_0_zero, Γ208_104, Γ208_150, Γ208_151, g104, g150, g151, hret, h0, ih]
theorem run208 (N : Nat) (v0 : Val Y33) : runT tt Γ208 (T208 N) (Tryz.f208.body.getD .skip) (retR tt true [i4, i4] [.tmp 2, .tmp 3]) (entryP [i33] 36 (v0, ())) = m208 N v0 := by
  unfold Tryz.f208
  simp (maxSteps := 10000000) -implicitDefEqProofs [T208_tr, tr208, T208_lp, lp208, T208_ex, ex208, T208_rg, rg208, T208_jn, jn208, T208_fuel, T208_pins, nl208_5_fix, nl208_5_keep, nl208_5_zero, nx208_0_fix, nx208_0_keep, nx208_0_zero, Γ208_104, Γ208_150, Γ208_151, g104, g150, g151]
  rewrite [r208_l5 (k0 := (fun (v6 : Int) (v7 : List (Val Y108)) => some ((decide ((0 : Int) < (v7.length : Int))), true, ()))) N  ?_ ?_ ?_]
  · rewrite [m208]; first | rfl | simp (maxSteps := 10000000) -implicitDefEqProofs []
  · rfl
  · intro; simp only [seqR_ret, blockR_ret, retR_ret, retX_ret]
  · intro v6 v7; simp (maxSteps := 10000000) -implicitDefEqProofs [T208_tr, tr208, T208_lp, lp208, T208_ex, ex208, T208_rg, rg208, T208_jn, jn208, T208_fuel, T208_pins, nl208_5_fix, nl208_5_keep, nl208_5_zero, nx208_0_fix, nx208_0_keep, nx208_0_zero, Γ208_104, Γ208_150, Γ208_151, g104, g150, g151]
def g220 : G := { ps := [i33, i108], rs := [i4, i4], dp := true, pre := fun _ => True, fn := fun x => ((impV x.1 x.2.1).1, (impV x.1 x.2.1).2, ()) }
def g283 : G := { ps := [i33, i108], rs := [i4, i4], dp := true, pre := fun x => impV_pre x.1 x.2.1, fn := fun x => ((impV x.1 x.2.1).1, (impV x.1 x.2.1).2, ()) }
noncomputable def m220 (N : Nat) (v0 : Val Y33) (v1 : Val Y108) : Option (Vals [i4, i4]) := bif (!((negV v1).2 : Bool)) then (some (false, false, ())) else (bif (!((meetV v0 (((((negV v1).1).1 : List (Val (.int .i64))).length : Int), ([((((negV v1).1).1 : List (Val (.int .i64))), ((((negV v1).1).2).1 : Int), ((((negV v1).1).2).2 : Bool))] : List (Val Y108)))).2 : Bool)) then (some (false, false, ())) else (some (((empV ((((meetV v0 (((((negV v1).1).1 : List (Val (.int .i64))).length : Int), ([((((negV v1).1).1 : List (Val (.int .i64))), ((((negV v1).1).2).1 : Int), ((((negV v1).1).2).2 : Bool))] : List (Val Y108)))).1).1 : Int), (((meetV v0 (((((negV v1).1).1 : List (Val (.int .i64))).length : Int), ([((((negV v1).1).1 : List (Val (.int .i64))), ((((negV v1).1).2).1 : Int), ((((negV v1).1).2).2 : Bool))] : List (Val Y108)))).1).2 : List (Val Y108)))).1 : Bool), ((empV ((((meetV v0 (((((negV v1).1).1 : List (Val (.int .i64))).length : Int), ([((((negV v1).1).1 : List (Val (.int .i64))), ((((negV v1).1).2).1 : Int), ((((negV v1).1).2).2 : Bool))] : List (Val Y108)))).1).1 : Int), (((meetV v0 (((((negV v1).1).1 : List (Val (.int .i64))).length : Int), ([((((negV v1).1).1 : List (Val (.int .i64))), ((((negV v1).1).2).1 : Int), ((((negV v1).1).2).2 : Bool))] : List (Val Y108)))).1).2 : List (Val Y108)))).2 : Bool), ())))
def Γ220 : Gam := [(182, g182), (212, g212), (221, g221)]
theorem Γ220_182 : Gam.get Γ220 182 = some g182 := rfl
theorem Γ220_212 : Gam.get Γ220 212 = some g212 := rfl
theorem Γ220_221 : Gam.get Γ220 221 = some g221 := rfl
def tr220 : Nat → Tree := fun _ => .done
def lp220 : Nat → Nm := fun _ => ⟨[], [], false⟩
def jn220 : Nat → Option Jn := fun _ => none
def ex220 : Nat → Option Nm := fun _ => none
def rg220 : Nat → Option Nm := fun _ => none
theorem p220 : plansOk tr220 (Tryz.f220.body.getD .skip) = true := by kernel_rfl
def T220 (N : Nat) : Tab := { tr := tr220, lp := lp220, ex := ex220, rg := rg220, jn := jn220, fuel := N }
theorem T220_pins (N : Nat) : (T220 N).pins = false := rfl
theorem tb220 (N : Nat) : TbOk Tryz.prog (T220 N) := tb_none fun _ => rfl
theorem T220_tr (N : Nat) (i : Nat) : (T220 N).tr i = tr220 i := rfl
theorem T220_lp (N : Nat) (i : Nat) : (T220 N).lp i = lp220 i := rfl
theorem T220_ex (N : Nat) (i : Nat) : (T220 N).ex i = ex220 i := rfl
theorem T220_rg (N : Nat) (i : Nat) : (T220 N).rg i = rg220 i := rfl
theorem T220_jn (N : Nat) (i : Nat) : (T220 N).jn i = jn220 i := rfl
theorem T220_fuel (N : Nat) : (T220 N).fuel = N := rfl
theorem run220 (N : Nat) (v0 : Val Y33) (v1 : Val Y108) : runT tt Γ220 (T220 N) (Tryz.f220.body.getD .skip) (retR tt true [i4, i4] [.tmp 4, .tmp 5]) (entryP [i33, i108] 33 (v0, v1, ())) = m220 N v0 v1 := by
  rw [m220]; unfold Tryz.f220
  simp (maxSteps := 10000000) -implicitDefEqProofs [T220_tr, tr220, T220_lp, lp220, T220_ex, ex220, T220_rg, rg220, T220_jn, jn220, T220_fuel, T220_pins, Γ220_182, Γ220_212, Γ220_221, g182, g212, g221]
  try rfl
noncomputable def m283 (N : Nat) (v0 : Val Y33) (v1 : Val Y108) : Option (Vals [i4, i4]) := chk (negV_pre v1) (chk (meetV_pre v0 (((v1.1 : List (Val (.int .i64))).length : Int), ([((((negV v1).1).1 : List (Val (.int .i64))), ((((negV v1).1).2).1 : Int), ((((negV v1).1).2).2 : Bool))] : List (Val Y108)))) (bif (!((negV v1).2 : Bool)) then (some (false, false, ())) else (bif (!((meetV v0 (((v1.1 : List (Val (.int .i64))).length : Int), ([((((negV v1).1).1 : List (Val (.int .i64))), ((((negV v1).1).2).1 : Int), ((((negV v1).1).2).2 : Bool))] : List (Val Y108)))).2 : Bool)) then (some (false, false, ())) else (chk (empV_pre ((meetV v0 (((v1.1 : List (Val (.int .i64))).length : Int), ([((((negV v1).1).1 : List (Val (.int .i64))), ((((negV v1).1).2).1 : Int), ((((negV v1).1).2).2 : Bool))] : List (Val Y108)))).1)) (some (((empV ((meetV v0 (((v1.1 : List (Val (.int .i64))).length : Int), ([((((negV v1).1).1 : List (Val (.int .i64))), ((((negV v1).1).2).1 : Int), ((((negV v1).1).2).2 : Bool))] : List (Val Y108)))).1)).1 : Bool), ((empV ((meetV v0 (((v1.1 : List (Val (.int .i64))).length : Int), ([((((negV v1).1).1 : List (Val (.int .i64))), ((((negV v1).1).2).1 : Int), ((((negV v1).1).2).2 : Bool))] : List (Val Y108)))).1)).2 : Bool), ()))))))
def Γ283 : Gam := [(178, g178), (208, g208), (218, g218)]
theorem Γ283_178 : Gam.get Γ283 178 = some g178 := rfl
theorem Γ283_208 : Gam.get Γ283 208 = some g208 := rfl
theorem Γ283_218 : Gam.get Γ283 218 = some g218 := rfl
def tr283 : Nat → Tree := fun _ => .done
def lp283 : Nat → Nm := fun _ => ⟨[], [], false⟩
def jn283 : Nat → Option Jn := fun _ => none
def ex283 : Nat → Option Nm := fun _ => none
def rg283 : Nat → Option Nm := fun _ => none
theorem p283 : plansOk tr283 (Tryz.f283.body.getD .skip) = true := by kernel_rfl
def T283 (N : Nat) : Tab := { tr := tr283, lp := lp283, ex := ex283, rg := rg283, jn := jn283, fuel := N }
theorem T283_pins (N : Nat) : (T283 N).pins = false := rfl
theorem tb283 (N : Nat) : TbOk Tryz.prog (T283 N) := tb_none fun _ => rfl
theorem T283_tr (N : Nat) (i : Nat) : (T283 N).tr i = tr283 i := rfl
theorem T283_lp (N : Nat) (i : Nat) : (T283 N).lp i = lp283 i := rfl
theorem T283_ex (N : Nat) (i : Nat) : (T283 N).ex i = ex283 i := rfl
theorem T283_rg (N : Nat) (i : Nat) : (T283 N).rg i = rg283 i := rfl
theorem T283_jn (N : Nat) (i : Nat) : (T283 N).jn i = jn283 i := rfl
theorem T283_fuel (N : Nat) : (T283 N).fuel = N := rfl
theorem run283 (N : Nat) (v0 : Val Y33) (v1 : Val Y108) : runT tt Γ283 (T283 N) (Tryz.f283.body.getD .skip) (retR tt true [i4, i4] [.tmp 4, .tmp 5]) (entryP [i33, i108] 41 (v0, v1, ())) = m283 N v0 v1 := by
  rw [m283]; unfold Tryz.f283
  simp (maxSteps := 10000000) -implicitDefEqProofs [T283_tr, tr283, T283_lp, lp283, T283_ex, ex283, T283_rg, rg283, T283_jn, jn283, T283_fuel, T283_pins, Γ283_178, Γ283_208, Γ283_218, g178, g208, g218]
  try rfl
end Go.T
