/- Cutting cells. -/
import Derived.Test.YthefcjjgchekiaaB6
import Derived.Test.YthefcjjgchekiaaB6n
set_option linter.unusedSimpArgs false
set_option linter.unusedVariables false
namespace Go.T
open Go Go.Proofs
set_option maxHeartbeats 4000000
set_option maxRecDepth 100000
def cutV (c : Val Y32) (a : Val Y36) : Val Y32 × Val Y32 × Bool :=
  bif (negV a).2 && (meetV c ((List.length (α := Val (.int .i64)) a.1 : Int), [a])).2 && (meetV c ((List.length (α := Val (.int .i64)) a.1 : Int), [(negV a).1])).2 then ((meetV c ((List.length (α := Val (.int .i64)) a.1 : Int), [a])).1, (meetV c ((List.length (α := Val (.int .i64)) a.1 : Int), [(negV a).1])).1, true) else (((0 : Int), []), ((0 : Int), []), false)
def cutV_pre (c : Val Y32) (a : Val Y36) : Prop := isCell_pre c ∧ idA_pre a
def g11 : G := { ps := [i32, i36], rs := [i32, i32, i4], dp := true, pre := fun _ => True, fn := fun x => ((cutV x.1 x.2.1).1, (cutV x.1 x.2.1).2.1, (cutV x.1 x.2.1).2.2, ()) }
def g8 : G := { ps := [i32, i36], rs := [i32, i32, i4], dp := false, pre := fun x => cutV_pre x.1 x.2.1, fn := fun x => ((cutV x.1 x.2.1).1, (cutV x.1 x.2.1).2.1, (cutV x.1 x.2.1).2.2, ()) }
-- impl.CutCell
noncomputable def m11 (N : Nat) (v0 : Val Y32) (v1 : Val Y36) : Option (Vals [i32, i32, i4]) := bif (!((negV v1).2 : Bool)) then (some (((0 : Int), ([] : List (Val Y36))), ((0 : Int), ([] : List (Val Y36))), false, ())) else (bif (!((meetV v0 (((v1.1 : List (Val (.int .i64))).length : Int), ([v1] : List (Val Y36)))).2 : Bool)) then (some (((0 : Int), ([] : List (Val Y36))), ((0 : Int), ([] : List (Val Y36))), false, ())) else (bif (!((meetV v0 (((v1.1 : List (Val (.int .i64))).length : Int), ([((((negV v1).1).1 : List (Val (.int .i64))), ((((negV v1).1).2).1 : Int), ((((negV v1).1).2).2 : Bool))] : List (Val Y36)))).2 : Bool)) then (some (((0 : Int), ([] : List (Val Y36))), ((0 : Int), ([] : List (Val Y36))), false, ())) else (some (((((meetV v0 (((v1.1 : List (Val (.int .i64))).length : Int), ([v1] : List (Val Y36)))).1).1 : Int), (((meetV v0 (((v1.1 : List (Val (.int .i64))).length : Int), ([v1] : List (Val Y36)))).1).2 : List (Val Y36))), ((((meetV v0 (((v1.1 : List (Val (.int .i64))).length : Int), ([((((negV v1).1).1 : List (Val (.int .i64))), ((((negV v1).1).2).1 : Int), ((((negV v1).1).2).2 : Bool))] : List (Val Y36)))).1).1 : Int), (((meetV v0 (((v1.1 : List (Val (.int .i64))).length : Int), ([((((negV v1).1).1 : List (Val (.int .i64))), ((((negV v1).1).2).1 : Int), ((((negV v1).1).2).2 : Bool))] : List (Val Y36)))).1).2 : List (Val Y36))), true, ()))))
def Γ11 : Gam := [(31, g31), (32, g32)]
theorem Γ11_31 : Gam.get Γ11 31 = some g31 := rfl
theorem Γ11_32 : Gam.get Γ11 32 = some g32 := rfl
def nr11_8 : Nm := ⟨[false, false, false, false, true, true, true], []⟩
theorem nr11_8_fix : nr11_8.fix = [] := rfl
theorem nr11_8_keep : nr11_8.keep = [false, false, false, false, true, true, true] := rfl
def tr11 : Nat → Tree := fun i => if i = 8 then .quiet 0 (.alt 1 (.alt 2 (.alt 3 (.quiet 4 .done) .stop) .stop) (.alt 2 (.quiet 1 (.alt 3 (.quiet 4 .done) .stop)) .stop)) else .done
def lp11 : Nat → Nm := fun _ => ⟨[], []⟩
def jn11 : Nat → Option Jn := fun _ => none
def ex11 : Nat → Option Nm := fun _ => none
def rg11 : Nat → Option Nm := fun i => if i = 8 then some nr11_8 else none
theorem p11 : plansOk tr11 (Try.f11.body.getD .skip) = true := by kernel_rfl
def T11 (N : Nat) : Tab := { tr := tr11, lp := lp11, ex := ex11, rg := rg11, jn := jn11, fuel := N }
theorem T11_pins (N : Nat) : (T11 N).pins = false := rfl
theorem tb11 (N : Nat) : TbOk Try.prog (T11 N) := tb_none fun _ => rfl
theorem T11_tr (N i : Nat) : (T11 N).tr i = tr11 i := rfl
theorem T11_lp (N i : Nat) : (T11 N).lp i = lp11 i := rfl
theorem T11_ex (N i : Nat) : (T11 N).ex i = ex11 i := rfl
theorem T11_rg (N i : Nat) : (T11 N).rg i = rg11 i := rfl
theorem T11_jn (N i : Nat) : (T11 N).jn i = jn11 i := rfl
theorem T11_fuel (N : Nat) : (T11 N).fuel = N := rfl
theorem run11 (N : Nat) (v0 : Val Y32) (v1 : Val Y36) : runT tt Γ11 (T11 N) (Try.f11.body.getD .skip) (retR tt true [i32, i32, i4] [.cell 4 32, .cell 5 32, .tmp 6]) (entryP [i32, i36] 53 (v0, v1, ())) = m11 N v0 v1 := by
  rw [m11]; unfold Try.f11
  simp (maxSteps := 10000000) -implicitDefEqProofs [T11_tr, tr11, T11_lp, lp11, T11_ex, ex11, T11_rg, rg11, T11_jn, jn11, T11_fuel, T11_pins, nr11_8_fix, nr11_8_keep, Γ11_31, Γ11_32, g31, g32]
  try rfl
-- spec.CutCell
noncomputable def m8 (N : Nat) (v0 : Val Y32) (v1 : Val Y36) : Option (Vals [i32, i32, i4]) := chk (negV_pre v1) (chk (idA_pre v1) (chk (meetV_pre v0 (((v1.1 : List (Val (.int .i64))).length : Int), ([(((idA v1).1 : List (Val (.int .i64))), (((idA v1).2).1 : Int), (((idA v1).2).2 : Bool))] : List (Val Y36)))) (chk (meetV_pre v0 (((v1.1 : List (Val (.int .i64))).length : Int), ([((((negV v1).1).1 : List (Val (.int .i64))), ((((negV v1).1).2).1 : Int), ((((negV v1).1).2).2 : Bool))] : List (Val Y36)))) (bif (!((negV v1).2 : Bool)) then (some (((0 : Int), ([] : List (Val Y36))), ((0 : Int), ([] : List (Val Y36))), false, ())) else (bif (!((meetV v0 (((v1.1 : List (Val (.int .i64))).length : Int), ([(((idA v1).1 : List (Val (.int .i64))), (((idA v1).2).1 : Int), (((idA v1).2).2 : Bool))] : List (Val Y36)))).2 : Bool)) then (some (((0 : Int), ([] : List (Val Y36))), ((0 : Int), ([] : List (Val Y36))), false, ())) else (bif (!((meetV v0 (((v1.1 : List (Val (.int .i64))).length : Int), ([((((negV v1).1).1 : List (Val (.int .i64))), ((((negV v1).1).2).1 : Int), ((((negV v1).1).2).2 : Bool))] : List (Val Y36)))).2 : Bool)) then (some (((0 : Int), ([] : List (Val Y36))), ((0 : Int), ([] : List (Val Y36))), false, ())) else (some ((meetV v0 (((v1.1 : List (Val (.int .i64))).length : Int), ([(((idA v1).1 : List (Val (.int .i64))), (((idA v1).2).1 : Int), (((idA v1).2).2 : Bool))] : List (Val Y36)))).1, (meetV v0 (((v1.1 : List (Val (.int .i64))).length : Int), ([((((negV v1).1).1 : List (Val (.int .i64))), ((((negV v1).1).2).1 : Int), ((((negV v1).1).2).2 : Bool))] : List (Val Y36)))).1, true, ()))))))))
def Γ8 : Gam := [(26, g26), (27, g27), (28, g28)]
theorem Γ8_26 : Gam.get Γ8 26 = some g26 := rfl
theorem Γ8_27 : Gam.get Γ8 27 = some g27 := rfl
theorem Γ8_28 : Gam.get Γ8 28 = some g28 := rfl
def nr8_2 : Nm := ⟨[false, false, true, true, true, true, false, true, true, true, true], []⟩
theorem nr8_2_fix : nr8_2.fix = [] := rfl
theorem nr8_2_keep : nr8_2.keep = [false, false, true, true, true, true, false, true, true, true, true] := rfl
def nr8_6 : Nm := ⟨[false, false, false, false, true, true, true], []⟩
theorem nr8_6_fix : nr8_6.fix = [] := rfl
theorem nr8_6_keep : nr8_6.keep = [false, false, false, false, true, true, true] := rfl
def tr8 : Nat → Tree := fun i => if i = 2 then .grow 4 (.keep 0 (.keep 1 (.keep 2 (.first 3 (.alt 5 (.alt 6 (.first 7 (.alt 8 (.first 9 (.first 10 (.first 11 (.alt 12 (.alt 13 (.quiet 14 .done) .stop) .stop)))) (.alt 12 (.alt 8 (.quiet 9 (.quiet 10 (.first 11 (.alt 13 (.quiet 14 .done) .stop)))) .stop) .stop))) (.alt 12 (.alt 6 (.quiet 7 (.alt 8 (.quiet 9 (.quiet 10 (.first 11 (.alt 13 (.quiet 14 .done) .stop)))) .stop)) .stop) .stop)) (.alt 12 (.alt 5 (.alt 6 (.quiet 7 (.alt 8 (.quiet 9 (.quiet 10 (.first 11 (.alt 13 (.quiet 14 .done) .stop)))) .stop)) .stop) .stop) .stop)))))) else if i = 6 then .quiet 0 (.alt 1 (.alt 2 (.alt 3 (.quiet 4 .done) .stop) .stop) (.alt 2 (.quiet 1 (.alt 3 (.quiet 4 .done) .stop)) .stop)) else .done
def lp8 : Nat → Nm := fun _ => ⟨[], []⟩
def jn8 : Nat → Option Jn := fun _ => none
def ex8 : Nat → Option Nm := fun _ => none
def rg8 : Nat → Option Nm := fun i => if i = 2 then some nr8_2 else if i = 6 then some nr8_6 else none
theorem p8 : plansOk tr8 (Try.f8.body.getD .skip) = true := by kernel_rfl
def T8 (N : Nat) : Tab := { tr := tr8, lp := lp8, ex := ex8, rg := rg8, jn := jn8, fuel := N }
theorem T8_pins (N : Nat) : (T8 N).pins = false := rfl
theorem tb8 (N : Nat) : TbOk Try.prog (T8 N) := tb_none fun _ => rfl
theorem T8_tr (N i : Nat) : (T8 N).tr i = tr8 i := rfl
theorem T8_lp (N i : Nat) : (T8 N).lp i = lp8 i := rfl
theorem T8_ex (N i : Nat) : (T8 N).ex i = ex8 i := rfl
theorem T8_rg (N i : Nat) : (T8 N).rg i = rg8 i := rfl
theorem T8_jn (N i : Nat) : (T8 N).jn i = jn8 i := rfl
theorem T8_fuel (N : Nat) : (T8 N).fuel = N := rfl
theorem run8 (N : Nat) (v0 : Val Y32) (v1 : Val Y36) : runT tt Γ8 (T8 N) (Try.f8.body.getD .skip) (retR tt false [i32, i32, i4] [.cell 4 32, .cell 5 32, .tmp 6]) (entryP [i32, i36] 55 (v0, v1, ())) = m8 N v0 v1 := by
  rw [m8]; unfold Try.f8
  simp (maxSteps := 10000000) -implicitDefEqProofs [T8_tr, tr8, T8_lp, lp8, T8_ex, ex8, T8_rg, rg8, T8_jn, jn8, T8_fuel, T8_pins, nr8_2_fix, nr8_2_keep, nr8_6_fix, nr8_6_keep, Γ8_26, Γ8_27, Γ8_28, g26, g27, g28]
  try rfl
theorem e11 (c : Val Y32) (a : Val Y36) : ∃ N, m11 N c a = some ((cutV c a).1, (cutV c a).2.1, (cutV c a).2.2, ()) := ⟨0, by
  rw [m11]
  unfold cutV
  cases (negV a).2 with
  | false => rfl
  | true =>
    have e : ([((((negV a).1).1 : List (Val (.int .i64))), ((((negV a).1).2).1 : Int), ((((negV a).1).2).2 : Bool))] : List (Val Y36)) = [(negV a).1] := rfl
    rw [e]
    cases (meetV c ((List.length (α := Val (.int .i64)) a.1 : Int), [a])).2 with
    | false => rfl
    | true => cases (meetV c ((List.length (α := Val (.int .i64)) a.1 : Int), [(negV a).1])).2 <;> rfl⟩
theorem s11 : Sound Try.prog 11 g11 := sound_run (tt := tt) (Γ := Γ11) hT (ok_cons s31 (ok_cons s32 ok_nil)) hm (fn := Try.f11) Try.func11 (c := Try.f11.body.getD .skip) (by kernel_rfl) (by kernel_rfl) fun x hx => by
  obtain ⟨N, h⟩ := e11 x.1 x.2.1
  exact ⟨T11 N, p11, noSem_ok _, tb11 N, (run11 N x.1 x.2.1).trans h⟩
theorem e8 (c : Val Y32) (a : Val Y36) (h : cutV_pre c a) : ∃ N, m8 N c a = some ((cutV c a).1, (cutV c a).2.1, (cutV c a).2.2, ()) := ⟨0, by
  rw [m8, chk_pos (show negV_pre a from h.2), chk_pos h.2]
  have e : ([(((idA a).1 : List (Val (.int .i64))), (((idA a).2).1 : Int), (((idA a).2).2 : Bool))] : List (Val Y36)) = [a] := rfl
  rw [e, chk_pos (show meetV_pre _ _ from ⟨h.1, by unfold isCell_pre; simp⟩), chk_pos (show meetV_pre _ _ from ⟨h.1, by unfold isCell_pre; simp⟩)]
  unfold cutV
  cases (negV a).2 with
  | false => rfl
  | true =>
    cases (meetV c ((List.length (α := Val (.int .i64)) a.1 : Int), [a])).2 with
    | false => rfl
    | true => cases (meetV c ((List.length (α := Val (.int .i64)) a.1 : Int), [(negV a).1])).2 <;> rfl⟩
theorem s8 : Sound Try.prog 8 g8 := sound_run (tt := tt) (Γ := Γ8) hT (ok_cons s26 (ok_cons s27 (ok_cons s28 ok_nil))) hm (fn := Try.f8) Try.func8 (c := Try.f8.body.getD .skip) (by kernel_rfl) (by kernel_rfl) fun x hx => by
  obtain ⟨N, h⟩ := e8 x.1 x.2.1 hx
  exact ⟨T8 N, p8, noSem_ok _, tb8 N, (run8 N x.1 x.2.1).trans h⟩
end Go.T
