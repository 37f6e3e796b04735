/- The law of SameRegion. -/
import Derived.Test.YthefcjjgchekiaaGreatF1
import Derived.Test.YthefcjjgchekiaaGreatE13
set_option linter.unusedSimpArgs false
set_option linter.unusedVariables false
namespace Go.T
open Go Go.Proofs
set_option maxHeartbeats 4000000
set_option maxRecDepth 100000
noncomputable def m5 (N : Nat) (v0 : Val Y42) (v1 : Val Y42) : Option (Vals [i4]) := chk (sz_Region_pre v0 (1048576 : Int)) (bif (decide (((sz_Region v0 (1048576 : Int)) : Int) < (0 : Int))) then (some (true, ())) else (chk (sz_Region_pre v1 ((sz_Region v0 (1048576 : Int)) : Int)) (bif (decide (((sz_Region v1 ((sz_Region v0 (1048576 : Int)) : Int)) : Int) < (0 : Int))) then (some (true, ())) else (chk (to_Region_pre v0) (chk (to_Region_pre v1) (chk (sameV_pre (((to_Region v0).1 : Int), ((to_Region v0).2 : List (Val Y33))) (((to_Region v1).1 : Int), ((to_Region v1).2 : List (Val Y33)))) (chk (to_Region_pre v0) (chk (to_Region_pre v1) (bif (!(((sameV (((to_Region v0).1 : Int), ((to_Region v0).2 : List (Val Y33))) (((to_Region v1).1 : Int), ((to_Region v1).2 : List (Val Y33)))).1 : Bool) == ((sameV (((to_Region v0).1 : Int), ((to_Region v0).2 : List (Val Y33))) (((to_Region v1).1 : Int), ((to_Region v1).2 : List (Val Y33)))).1 : Bool))) then (some (false, ())) else (bif (!(((sameV (((to_Region v0).1 : Int), ((to_Region v0).2 : List (Val Y33))) (((to_Region v1).1 : Int), ((to_Region v1).2 : List (Val Y33)))).2 : Bool) == ((sameV (((to_Region v0).1 : Int), ((to_Region v0).2 : List (Val Y33))) (((to_Region v1).1 : Int), ((to_Region v1).2 : List (Val Y33)))).2 : Bool))) then (some (false, ())) else (chk (to_Region_pre v0) (chk (eq_Region_pre (((to_Region v0).1 : Int), ((to_Region v0).2 : List (Val Y33))) (((to_Region v0).1 : Int), ((to_Region v0).2 : List (Val Y33)))) (bif (!((eq_Region (((to_Region v0).1 : Int), ((to_Region v0).2 : List (Val Y33))) (((to_Region v0).1 : Int), ((to_Region v0).2 : List (Val Y33)))) : Bool)) then (some (false, ())) else (chk (to_Region_pre v1) (chk (eq_Region_pre (((to_Region v1).1 : Int), ((to_Region v1).2 : List (Val Y33))) (((to_Region v1).1 : Int), ((to_Region v1).2 : List (Val Y33)))) (bif (!((eq_Region (((to_Region v1).1 : Int), ((to_Region v1).2 : List (Val Y33))) (((to_Region v1).1 : Int), ((to_Region v1).2 : List (Val Y33)))) : Bool)) then (some (false, ())) else (some (true, ()))))))))))))))))))
def Γ5 : Gam := [(30, g30), (33, g33), (36, g36), (38, g38), (39, g39)]
theorem Γ5_30 : Gam.get Γ5 30 = some g30 := rfl
theorem Γ5_33 : Gam.get Γ5 33 = some g33 := rfl
theorem Γ5_36 : Gam.get Γ5 36 = some g36 := rfl
theorem Γ5_38 : Gam.get Γ5 38 = some g38 := rfl
theorem Γ5_39 : Gam.get Γ5 39 = some g39 := rfl
def tr5 : Nat → Tree := fun i => if i = 8 then .quiet 0 (.alt 1 (.quiet 2 (.alt 3 (.alt 4 (.quiet 5 (.quiet 6 (.quiet 7 (.quiet 8 (.quiet 9 .done))))) .stop) .stop)) (.alt 2 (.alt 1 (.alt 3 (.alt 4 (.quiet 5 (.quiet 6 (.quiet 7 (.quiet 8 (.quiet 9 .done))))) .stop) .stop) .stop) .stop)) else if i = 14 then .quiet 1 (.alt 0 (.alt 2 (.alt 3 (.quiet 4 .done) .stop) .stop) (.alt 2 (.quiet 0 (.alt 3 (.quiet 4 .done) .stop)) .stop)) else if i = 16 then .quiet 1 (.alt 0 (.alt 2 (.alt 3 (.quiet 4 .done) .stop) .stop) (.alt 2 (.quiet 0 (.alt 3 (.quiet 4 .done) .stop)) .stop)) else .done
def lp5 : Nat → Nm := fun _ => ⟨[], [], false⟩
def jn5 : Nat → Option Jn := fun _ => none
def ex5 : Nat → Option Nm := fun _ => none
def rg5 : Nat → Option Nm := fun _ => none
theorem p5 : plansOk tr5 (Tryz.f5.body.getD .skip) = true := by kernel_rfl
def T5 (N : Nat) : Tab := { tr := tr5, lp := lp5, ex := ex5, rg := rg5, jn := jn5, fuel := N }
theorem T5_pins (N : Nat) : (T5 N).pins = false := rfl
theorem tb5 (N : Nat) : TbOk Tryz.prog (T5 N) := tb_none fun _ => rfl
theorem T5_tr (N : Nat) (i : Nat) : (T5 N).tr i = tr5 i := rfl
theorem T5_lp (N : Nat) (i : Nat) : (T5 N).lp i = lp5 i := rfl
theorem T5_ex (N : Nat) (i : Nat) : (T5 N).ex i = ex5 i := rfl
theorem T5_rg (N : Nat) (i : Nat) : (T5 N).rg i = rg5 i := rfl
theorem T5_jn (N : Nat) (i : Nat) : (T5 N).jn i = jn5 i := rfl
theorem T5_fuel (N : Nat) : (T5 N).fuel = N := rfl
theorem run5 (N : Nat) (v0 : Val Y42) (v1 : Val Y42) : runT tt Γ5 (T5 N) (Tryz.f5.body.getD .skip) (retR tt true [i4] [.tmp 4]) (entryP [i42, i42] 58 (v0, v1, ())) = m5 N v0 v1 := by
  rw [m5]; unfold Tryz.f5
  simp (maxSteps := 10000000) -implicitDefEqProofs [T5_tr, tr5, T5_lp, lp5, T5_ex, ex5, T5_rg, rg5, T5_jn, jn5, T5_fuel, T5_pins, Γ5_30, Γ5_33, Γ5_36, Γ5_38, Γ5_39, g30, g33, g36, g38, g39]
  try rfl
def law5 (_ : Val Y42) (_ : Val Y42) : Bool := true
def law5_pre (x0 : Val Y42) (x1 : Val Y42) : Prop := Sms [i42, i42] (x0, x1, ())
def g5 : G := { ps := [i42, i42], rs := [i4], dp := true, pre := fun x => law5_pre x.1 x.2.1, fn := fun x => (law5 x.1 x.2.1, ()) }
theorem regPre {r : Val Y50} (h : Bd Y50 r) : isReg_pre r := ⟨h.2.1, fun c hc => (h.2.2 c hc).2.1⟩
theorem e5 (x y : Val Y42) (h : law5_pre x y) : ∃ N, m5 N x y = some (law5 x y, ()) := ⟨0, by
  rw [m5, chk_pos (show sz_Region_pre x 1048576 from ⟨h.1, by omega, by omega⟩)]
  by_cases c : sz_Region x 1048576 < 0
  · rw [bif_dec c]; rfl
  rw [bif_decN c]
  have hsz : 0 ≤ szV Y42 x 1048576 := by have : ¬ szV Y42 x 1048576 < 0 := c; omega
  have hle : szV Y42 x 1048576 ≤ 1048576 := (szV_le Y42 x 1048576 (by omega)).1
  have hb : Bd Y42 x := szV_Bd Y42 x 1048576 (by omega) (by omega) hsz
  rw [chk_pos (show sz_Region_pre y (sz_Region x 1048576) from ⟨h.2.1, hsz, hle⟩)]
  by_cases c2 : sz_Region y (sz_Region x 1048576) < 0
  · rw [bif_dec c2]; rfl
  rw [bif_decN c2]
  have hsz2 : 0 ≤ szV Y42 y (szV Y42 x 1048576) := by have : ¬ szV Y42 y (szV Y42 x 1048576) < 0 := c2; omega
  have hc : Bd Y42 y := szV_Bd Y42 y _ (by omega) (by omega) hsz2
  have tx : to_Region_pre x := hb
  have ty : to_Region_pre y := hc
  have hp : sameV_pre (to_Region x) (to_Region y) := ⟨regPre hb, regPre hc⟩
  have ex : eq_Region_pre (to_Region x) (to_Region x) := hb
  have ey : eq_Region_pre (to_Region y) (to_Region y) := hc
  have rx : eq_Region (to_Region x) (to_Region x) = true := eqV_refl _ _
  have ry : eq_Region (to_Region y) (to_Region y) = true := eqV_refl _ _
  have eX : ((((to_Region x).1 : Int), ((to_Region x).2 : List (Val Y33))) : Val Y50) = to_Region x := rfl
  have eY : ((((to_Region y).1 : Int), ((to_Region y).2 : List (Val Y33))) : Val Y50) = to_Region y := rfl
  try rw [eX, eY]
  simp only [chk_pos tx, chk_pos ty, chk_pos hp, chk_pos ex, chk_pos ey, rx, ry, Bool.not_true, cond_false, beq_self_eq_true]
  rfl⟩
theorem s5 : Sound Tryz.prog 5 g5 := sound_run (tt := tt) (Γ := Γ5) hT (ok_cons s30 (ok_cons s33 (ok_cons s36 (ok_cons s38 (ok_cons s39 ok_nil))))) hm (fn := Tryz.f5) Tryz.func5 (c := Tryz.f5.body.getD .skip) (by kernel_rfl) (by kernel_rfl) fun x hx => by
  obtain ⟨N, h⟩ := e5 x.1 x.2.1 hx
  exact ⟨T5 N, p5, noSem_ok _, tb5 N, (run5 N x.1 x.2.1).trans h⟩
end Go.T
