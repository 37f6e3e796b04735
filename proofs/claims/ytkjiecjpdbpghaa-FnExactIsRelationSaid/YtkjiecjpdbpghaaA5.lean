/- The law of IsRelation. -/
import Derived.Test.YtkjiecjpdbpghaaA3
import Derived.Test.YtkjiecjpdbpghaaA4
set_option linter.unusedSimpArgs false
set_option linter.unusedVariables false
namespace Go.T
open Go Go.Proofs
set_option maxHeartbeats 4000000
set_option maxRecDepth 100000
-- laws.FnExactIsRelation
noncomputable def m5 (N : Nat) (v0 : Val Y48) : Option (Vals [i4]) := chk (sz_Relation_pre v0 (1048576 : Int)) (bif (decide (((sz_Relation v0 (1048576 : Int)) : Int) < (0 : Int))) then (some (true, ())) else (chk (to_Relation_pre v0) (chk (isRel_pre (((to_Relation v0).1 : ByteArray), (((to_Relation v0).2).1 : Int), (((to_Relation v0).2).2 : List (Val Y116)))) (chk (to_Relation_pre v0) (bif (!(((isRel (((to_Relation v0).1 : ByteArray), (((to_Relation v0).2).1 : Int), (((to_Relation v0).2).2 : List (Val Y116)))) : Bool) == ((isRel (((to_Relation v0).1 : ByteArray), (((to_Relation v0).2).1 : Int), (((to_Relation v0).2).2 : List (Val Y116)))) : Bool))) then (some (false, ())) else (chk (to_Relation_pre v0) (chk (eq_Relation_pre (((to_Relation v0).1 : ByteArray), (((to_Relation v0).2).1 : Int), (((to_Relation v0).2).2 : List (Val Y116))) (((to_Relation v0).1 : ByteArray), (((to_Relation v0).2).1 : Int), (((to_Relation v0).2).2 : List (Val Y116)))) (bif (!((eq_Relation (((to_Relation v0).1 : ByteArray), (((to_Relation v0).2).1 : Int), (((to_Relation v0).2).2 : List (Val Y116))) (((to_Relation v0).1 : ByteArray), (((to_Relation v0).2).1 : Int), (((to_Relation v0).2).2 : List (Val Y116)))) : Bool)) then (some (false, ())) else (some (true, ()))))))))))
def Γ5 : Gam := [(28, g28), (29, g29), (30, g30), (31, g31), (32, g32)]
theorem Γ5_28 : Gam.get Γ5 28 = some g28 := rfl
theorem Γ5_29 : Gam.get Γ5 29 = some g29 := rfl
theorem Γ5_30 : Gam.get Γ5 30 = some g30 := rfl
theorem Γ5_31 : Gam.get Γ5 31 = some g31 := rfl
theorem Γ5_32 : Gam.get Γ5 32 = some g32 := rfl
def nr5_10 : Nm := ⟨[false, false, false, false, false, false, false, false, false, false, false, false, false, false, false, false, false, false, false, false, false, false, false, false, false, false, true], []⟩
theorem nr5_10_fix : nr5_10.fix = [] := rfl
theorem nr5_10_keep : nr5_10.keep = [false, false, false, false, false, false, false, false, false, false, false, false, false, false, false, false, false, false, false, false, false, false, false, false, false, false, true] := rfl
def tr5 : Nat → Tree := fun i => if i = 10 then .quiet 1 (.alt 0 (.alt 2 (.alt 3 (.quiet 4 .done) .stop) .stop) (.alt 2 (.quiet 0 (.alt 3 (.quiet 4 .done) .stop)) .stop)) else .done
def lp5 : Nat → Nm := fun _ => ⟨[], []⟩
def ex5 : Nat → Option Nm := fun _ => none
def rg5 : Nat → Option Nm := fun i => if i = 10 then some nr5_10 else none
theorem p5 : plansOk tr5 (Try.f5.body.getD .skip) = true := by kernel_rfl
def T5 (N : Nat) : Tab := ⟨tr5, lp5, ex5, rg5, N⟩
theorem T5_tr (N i : Nat) : (T5 N).tr i = tr5 i := rfl
theorem T5_lp (N i : Nat) : (T5 N).lp i = lp5 i := rfl
theorem T5_ex (N i : Nat) : (T5 N).ex i = ex5 i := rfl
theorem T5_rg (N i : Nat) : (T5 N).rg i = rg5 i := rfl
theorem T5_fuel (N : Nat) : (T5 N).fuel = N := rfl
theorem run5 (N : Nat) (v0 : Val Y48) : runT tt Γ5 (T5 N) (Try.f5.body.getD .skip) (retR tt true [i4] [.tmp 2]) (entryP [i48] 27 (v0, ())) = m5 N v0 := by
  rw [m5]; unfold Try.f5
  simp (maxSteps := 10000000) -implicitDefEqProofs [T5_tr, tr5, T5_lp, lp5, T5_ex, ex5, T5_rg, rg5, T5_fuel, nr5_10_fix, nr5_10_keep, Γ5_28, Γ5_29, Γ5_30, Γ5_31, Γ5_32, g28, g29, g30, g31, g32]
def law5 (_ : Val Y48) : Bool := true
def law5_pre (x0 : Val Y48) : Prop := Sms [i48] (x0, ())
def g5 : G := { ps := [i48], rs := [i4], dp := true, pre := fun x => law5_pre x.1, fn := fun x => (law5 x.1, ()) }
theorem e5 (x : Val Y48) (h : law5_pre x) : ∃ N, m5 N x = some (law5 x, ()) := ⟨0, by
  rw [m5, chk_pos (show sz_Relation_pre x 1048576 from ⟨h.1, by omega, by omega⟩)]
  by_cases c : sz_Relation x 1048576 < 0
  · rw [bif_dec c]; rfl
  · have hb : Bd Y48 x := szV_Bd _ x 1048576 (by omega) (by omega) (by have : ¬ szV Y48 x 1048576 < 0 := c; omega)
    rw [bif_decN c, chk_pos (show to_Relation_pre x from hb), chk_pos (show isRel_pre (to_Relation x) from hb), chk_pos (show to_Relation_pre x from hb)]
    rw [bif_not, bif_true (show (isRel (to_Relation x) == isRel (to_Relation x)) = true from beq_self_eq_true _), chk_pos (show to_Relation_pre x from hb), chk_pos (show eq_Relation_pre (to_Relation x) (to_Relation x) from hb), bif_not, bif_true (show eq_Relation (to_Relation x) (to_Relation x) = true from eqV_refl _ _)]
    rfl⟩
theorem s5 : Sound Try.prog 5 g5 := sound_run (tt := tt) (Γ := Γ5) hT (ok_cons s28 (ok_cons s29 (ok_cons s30 (ok_cons s31 (ok_cons s32 ok_nil))))) hm (fn := Try.f5) Try.func5 (c := Try.f5.body.getD .skip) (by kernel_rfl) (by kernel_rfl) fun x hx => by
  obtain ⟨N, h⟩ := e5 x.1 hx
  exact ⟨T5 N, p5, (run5 N x.1).trans h⟩
end Go.T
