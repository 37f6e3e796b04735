/- The law of IsBounded. -/
import Derived.Test.YthefcjjgchekiaaC1
import Derived.Test.YthefcjjgchekiaaA7
import Derived.Test.YthefcjjgchekiaaB20
set_option linter.unusedSimpArgs false
set_option linter.unusedVariables false
namespace Go.T
open Go Go.Proofs
set_option maxHeartbeats 4000000
set_option maxRecDepth 100000
-- laws.FnExactIsBounded
noncomputable def m4 (N : Nat) (v0 : Val Y24) : Option (Vals [i4]) := chk (sz_Cell_pre v0 (1048576 : Int)) (bif (decide (((sz_Cell v0 (1048576 : Int)) : Int) < (0 : Int))) then (some (true, ())) else (chk (to_Cell_pre v0) (chk (isBd_pre (((to_Cell v0).1 : Int), ((to_Cell v0).2 : List (Val Y36)))) (chk (to_Cell_pre v0) (bif (!(((isBd (((to_Cell v0).1 : Int), ((to_Cell v0).2 : List (Val Y36)))).1 : Bool) == ((isBd (((to_Cell v0).1 : Int), ((to_Cell v0).2 : List (Val Y36)))).1 : Bool))) then (some (false, ())) else (bif (!(((isBd (((to_Cell v0).1 : Int), ((to_Cell v0).2 : List (Val Y36)))).2 : Bool) == ((isBd (((to_Cell v0).1 : Int), ((to_Cell v0).2 : List (Val Y36)))).2 : Bool))) then (some (false, ())) else (chk (to_Cell_pre v0) (chk (eq_Cell_pre (((to_Cell v0).1 : Int), ((to_Cell v0).2 : List (Val Y36))) (((to_Cell v0).1 : Int), ((to_Cell v0).2 : List (Val Y36)))) (bif (!((eq_Cell (((to_Cell v0).1 : Int), ((to_Cell v0).2 : List (Val Y36))) (((to_Cell v0).1 : Int), ((to_Cell v0).2 : List (Val Y36)))) : Bool)) then (some (false, ())) else (some (true, ())))))))))))
def Γ4 : Gam := [(6, g6), (9, g9), (12, g12), (17, g17), (18, g18)]
theorem Γ4_6 : Gam.get Γ4 6 = some g6 := rfl
theorem Γ4_9 : Gam.get Γ4 9 = some g9 := rfl
theorem Γ4_12 : Gam.get Γ4 12 = some g12 := rfl
theorem Γ4_17 : Gam.get Γ4 17 = some g17 := rfl
theorem Γ4_18 : Gam.get Γ4 18 = some g18 := rfl
def tr4 : Nat → Tree := fun i => if i = 10 then .quiet 1 (.alt 0 (.alt 2 (.alt 3 (.quiet 4 .done) .stop) .stop) (.alt 2 (.quiet 0 (.alt 3 (.quiet 4 .done) .stop)) .stop)) else .done
def lp4 : Nat → Nm := fun _ => ⟨[], []⟩
def jn4 : Nat → Option Jn := fun _ => none
def ex4 : Nat → Option Nm := fun _ => none
def rg4 : Nat → Option Nm := fun _ => none
theorem p4 : plansOk tr4 (Try.f4.body.getD .skip) = true := by kernel_rfl
def T4 (N : Nat) : Tab := { tr := tr4, lp := lp4, ex := ex4, rg := rg4, jn := jn4, fuel := N }
theorem T4_pins (N : Nat) : (T4 N).pins = false := rfl
theorem tb4 (N : Nat) : TbOk Try.prog (T4 N) := tb_none fun _ => rfl
theorem T4_tr (N i : Nat) : (T4 N).tr i = tr4 i := rfl
theorem T4_lp (N i : Nat) : (T4 N).lp i = lp4 i := rfl
theorem T4_ex (N i : Nat) : (T4 N).ex i = ex4 i := rfl
theorem T4_rg (N i : Nat) : (T4 N).rg i = rg4 i := rfl
theorem T4_jn (N i : Nat) : (T4 N).jn i = jn4 i := rfl
theorem T4_fuel (N : Nat) : (T4 N).fuel = N := rfl
theorem run4 (N : Nat) (v0 : Val Y24) : runT tt Γ4 (T4 N) (Try.f4.body.getD .skip) (retR tt true [i4] [.tmp 2]) (entryP [i24] 40 (v0, ())) = m4 N v0 := by
  rw [m4]; unfold Try.f4
  simp (maxSteps := 10000000) -implicitDefEqProofs [T4_tr, tr4, T4_lp, lp4, T4_ex, ex4, T4_rg, rg4, T4_jn, jn4, T4_fuel, T4_pins, Γ4_6, Γ4_9, Γ4_12, Γ4_17, Γ4_18, g6, g9, g12, g17, g18]
  try rfl
def law4 (_ : Val Y24) : Bool := true
def law4_pre (x0 : Val Y24) : Prop := Sms [i24] (x0, ())
def g4 : G := { ps := [i24], rs := [i4], dp := true, pre := fun x => law4_pre x.1, fn := fun x => (law4 x.1, ()) }
theorem e4 (x : Val Y24) (h : law4_pre x) : ∃ N, m4 N x = some (law4 x, ()) := ⟨0, by
  rw [m4, chk_pos (show sz_Cell_pre x 1048576 from ⟨h.1, by omega, by omega⟩)]
  by_cases c : sz_Cell x 1048576 < 0
  · rw [bif_dec c]; rfl
  rw [bif_decN c]
  have hsz : 0 ≤ szV Y24 x 1048576 := by have : ¬ szV Y24 x 1048576 < 0 := c; omega
  have hb : Bd Y24 x := szV_Bd Y24 x 1048576 (by omega) (by omega) hsz
  have tx : to_Cell_pre x := hb
  have hp : isBd_pre (to_Cell x) := hb.2.1
  have ex : eq_Cell_pre (to_Cell x) (to_Cell x) := hb
  have rf : eq_Cell (to_Cell x) (to_Cell x) = true := eqV_refl _ _
  have eX : ((((to_Cell x).1 : Int), ((to_Cell x).2 : List (Val Y36))) : Val Y32) = to_Cell x := rfl
  try rw [eX]
  simp only [chk_pos tx, chk_pos hp, chk_pos ex, rf, Bool.not_true, cond_false, beq_self_eq_true]
  rfl⟩
theorem s4 : Sound Try.prog 4 g4 := sound_run (tt := tt) (Γ := Γ4) hT (ok_cons s6 (ok_cons s9 (ok_cons s12 (ok_cons s17 (ok_cons s18 ok_nil))))) hm (fn := Try.f4) Try.func4 (c := Try.f4.body.getD .skip) (by kernel_rfl) (by kernel_rfl) fun x hx => by
  obtain ⟨N, h⟩ := e4 x.1 hx
  exact ⟨T4 N, p4, noSem_ok _, tb4 N, (run4 N x.1).trans h⟩
end Go.T
