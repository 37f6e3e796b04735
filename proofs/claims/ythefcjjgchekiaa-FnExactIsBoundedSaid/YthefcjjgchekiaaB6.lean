/- Meeting and cutting cells. -/
import Derived.Test.YthefcjjgchekiaaB5
set_option linter.unusedSimpArgs false
set_option linter.unusedVariables false
namespace Go.T
open Go Go.Proofs
set_option maxHeartbeats 4000000
set_option maxRecDepth 100000
def limV (d : Int) (l : List (Val Y36)) : Val Y32 × Bool := bif decide ((16 : Int) < (List.length (α := Val Y36) (nrmV d l).2 : Int)) then (((0 : Int), []), false) else (nrmV d l, true)
def limV_pre (d : Int) (l : List (Val Y36)) : Prop := okL d l
def g46 : G := { ps := [i3, i30], rs := [i32, i4], dp := true, pre := fun x => limV_pre x.1 x.2.1, fn := fun x => ((limV x.1 x.2.1).1, (limV x.1 x.2.1).2, ()) }
-- impl.limitedNormal
noncomputable def m46 (N : Nat) (v0 : Int) (v1 : List (Val Y36)) : Option (Vals [i32, i4]) := chk (nrmV_pre v0 v1) (bif (decide ((16 : Int) < (((nrmV v0 v1).2 : List (Val Y36)).length : Int))) then (some (((0 : Int), ([] : List (Val Y36))), false, ())) else (some ((((nrmV v0 v1).1 : Int), ((nrmV v0 v1).2 : List (Val Y36))), true, ())))
def Γ46 : Gam := [(52, g52)]
theorem Γ46_52 : Gam.get Γ46 52 = some g52 := rfl
def tr46 : Nat → Tree := fun _ => .done
def lp46 : Nat → Nm := fun _ => ⟨[], []⟩
def jn46 : Nat → Option Jn := fun _ => none
def ex46 : Nat → Option Nm := fun _ => none
def rg46 : Nat → Option Nm := fun _ => none
theorem p46 : plansOk tr46 (Try.f46.body.getD .skip) = true := by kernel_rfl
def T46 (N : Nat) : Tab := { tr := tr46, lp := lp46, ex := ex46, rg := rg46, jn := jn46, fuel := N }
theorem T46_pins (N : Nat) : (T46 N).pins = false := rfl
theorem tb46 (N : Nat) : TbOk Try.prog (T46 N) := tb_none fun _ => rfl
theorem T46_tr (N i : Nat) : (T46 N).tr i = tr46 i := rfl
theorem T46_lp (N i : Nat) : (T46 N).lp i = lp46 i := rfl
theorem T46_ex (N i : Nat) : (T46 N).ex i = ex46 i := rfl
theorem T46_rg (N i : Nat) : (T46 N).rg i = rg46 i := rfl
theorem T46_jn (N i : Nat) : (T46 N).jn i = jn46 i := rfl
theorem T46_fuel (N : Nat) : (T46 N).fuel = N := rfl
theorem run46 (N : Nat) (v0 : Int) (v1 : List (Val Y36)) : runT tt Γ46 (T46 N) (Try.f46.body.getD .skip) (retR tt true [i32, i4] [.cell 4 32, .tmp 5]) (entryP [i3, i30] 16 (v0, v1, ())) = m46 N v0 v1 := by
  rw [m46]; unfold Try.f46
  simp (maxSteps := 10000000) -implicitDefEqProofs [T46_tr, tr46, T46_lp, lp46, T46_ex, ex46, T46_rg, rg46, T46_jn, jn46, T46_fuel, T46_pins, Γ46_52, g52]
  try rfl
theorem e46 (d : Int) (l : List (Val Y36)) (h : limV_pre d l) : ∃ N, m46 N d l = some ((limV d l).1, (limV d l).2, ()) := ⟨0, by
  rw [m46, chk_pos (show nrmV_pre d l from h)]
  unfold limV
  cases decide ((16 : Int) < (List.length (α := Val Y36) (nrmV d l).2 : Int)) <;> rfl⟩
theorem s46 : Sound Try.prog 46 g46 := sound_run (tt := tt) (Γ := Γ46) hT (ok_cons s52 ok_nil) hm (fn := Try.f46) Try.func46 (c := Try.f46.body.getD .skip) (by kernel_rfl) (by kernel_rfl) fun x hx => by
  obtain ⟨N, h⟩ := e46 x.1 x.2.1 hx
  exact ⟨T46 N, p46, noSem_ok _, tb46 N, (run46 N x.1 x.2.1).trans h⟩
def meetV (a b : Val Y32) : Val Y32 × Bool := bif isCell a && isCell b && decide ((a.1 : Int) = (b.1 : Int)) then limV a.1 (List.append (α := Val Y36) a.2 b.2) else (((0 : Int), []), false)
def meetV_pre (a b : Val Y32) : Prop := isCell_pre a ∧ isCell_pre b
def g32 : G := { ps := [i32, i32], rs := [i32, i4], dp := true, pre := fun _ => True, fn := fun x => ((meetV x.1 x.2.1).1, (meetV x.1 x.2.1).2, ()) }
def g27 : G := { ps := [i32, i32], rs := [i32, i4], dp := false, pre := fun x => meetV_pre x.1 x.2.1, fn := fun x => ((meetV x.1 x.2.1).1, (meetV x.1 x.2.1).2, ()) }
-- impl.MeetCells
noncomputable def m32 (N : Nat) (v0 : Val Y32) (v1 : Val Y32) : Option (Vals [i32, i4]) := bif (!((isCell v0) : Bool)) then (some (((0 : Int), ([] : List (Val Y36))), false, ())) else (bif (!((isCell v1) : Bool)) then (some (((0 : Int), ([] : List (Val Y36))), false, ())) else (bif (!(decide ((v0.1 : Int) = (v1.1 : Int)))) then (some (((0 : Int), ([] : List (Val Y36))), false, ())) else (chk (catV_pre ([(v0.2 : List (Val Y36)), (v1.2 : List (Val Y36))] : List (Val (.slice 36 Y36)))) (chk (limV_pre (v0.1 : Int) ((catV ([(v0.2 : List (Val Y36)), (v1.2 : List (Val Y36))] : List (Val (.slice 36 Y36)))) : List (Val Y36))) (some (((((limV (v0.1 : Int) ((catV ([(v0.2 : List (Val Y36)), (v1.2 : List (Val Y36))] : List (Val (.slice 36 Y36)))) : List (Val Y36))).1).1 : Int), (((limV (v0.1 : Int) ((catV ([(v0.2 : List (Val Y36)), (v1.2 : List (Val Y36))] : List (Val (.slice 36 Y36)))) : List (Val Y36))).1).2 : List (Val Y36))), ((limV (v0.1 : Int) ((catV ([(v0.2 : List (Val Y36)), (v1.2 : List (Val Y36))] : List (Val (.slice 36 Y36)))) : List (Val Y36))).2 : Bool), ()))))))
def Γ32 : Gam := [(40, g40), (46, g46), (47, g47)]
theorem Γ32_40 : Gam.get Γ32 40 = some g40 := rfl
theorem Γ32_46 : Gam.get Γ32 46 = some g46 := rfl
theorem Γ32_47 : Gam.get Γ32 47 = some g47 := rfl
def nr32_3 : Nm := ⟨[false, false, false, false, true, true], []⟩
theorem nr32_3_fix : nr32_3.fix = [] := rfl
theorem nr32_3_keep : nr32_3.keep = [false, false, false, false, true, true] := rfl
def tr32 : Nat → Tree := fun i => if i = 3 then .quiet 2 (.quiet 3 (.quiet 4 (.quiet 5 (.alt 0 (.alt 1 (.alt 6 (.alt 7 (.alt 8 (.quiet 9 (.quiet 10 (.alt 11 (.quiet 12 .done) .stop))) .stop) .stop) .stop) (.alt 6 (.alt 1 (.alt 7 (.alt 8 (.quiet 9 (.quiet 10 (.alt 11 (.quiet 12 .done) .stop))) .stop) .stop) (.alt 7 (.quiet 1 (.alt 8 (.quiet 9 (.quiet 10 (.alt 11 (.quiet 12 .done) .stop))) .stop)) .stop)) .stop)) (.alt 6 (.alt 0 (.alt 1 (.alt 7 (.alt 8 (.quiet 9 (.quiet 10 (.alt 11 (.quiet 12 .done) .stop))) .stop) .stop) (.alt 7 (.quiet 1 (.alt 8 (.quiet 9 (.quiet 10 (.alt 11 (.quiet 12 .done) .stop))) .stop)) .stop)) (.alt 7 (.quiet 0 (.quiet 1 (.alt 8 (.quiet 9 (.quiet 10 (.alt 11 (.quiet 12 .done) .stop))) .stop))) .stop)) .stop))))) else .done
def lp32 : Nat → Nm := fun _ => ⟨[], []⟩
def jn32 : Nat → Option Jn := fun _ => none
def ex32 : Nat → Option Nm := fun _ => none
def rg32 : Nat → Option Nm := fun i => if i = 3 then some nr32_3 else none
theorem p32 : plansOk tr32 (Try.f32.body.getD .skip) = true := by kernel_rfl
def T32 (N : Nat) : Tab := { tr := tr32, lp := lp32, ex := ex32, rg := rg32, jn := jn32, fuel := N }
theorem T32_pins (N : Nat) : (T32 N).pins = false := rfl
theorem tb32 (N : Nat) : TbOk Try.prog (T32 N) := tb_none fun _ => rfl
theorem T32_tr (N i : Nat) : (T32 N).tr i = tr32 i := rfl
theorem T32_lp (N i : Nat) : (T32 N).lp i = lp32 i := rfl
theorem T32_ex (N i : Nat) : (T32 N).ex i = ex32 i := rfl
theorem T32_rg (N i : Nat) : (T32 N).rg i = rg32 i := rfl
theorem T32_jn (N i : Nat) : (T32 N).jn i = jn32 i := rfl
theorem T32_fuel (N : Nat) : (T32 N).fuel = N := rfl
theorem run32 (N : Nat) (v0 : Val Y32) (v1 : Val Y32) : runT tt Γ32 (T32 N) (Try.f32.body.getD .skip) (retR tt true [i32, i4] [.cell 4 32, .tmp 5]) (entryP [i32, i32] 33 (v0, v1, ())) = m32 N v0 v1 := by
  rw [m32]; unfold Try.f32
  simp (maxSteps := 10000000) -implicitDefEqProofs [T32_tr, tr32, T32_lp, lp32, T32_ex, ex32, T32_rg, rg32, T32_jn, jn32, T32_fuel, T32_pins, nr32_3_fix, nr32_3_keep, Γ32_40, Γ32_46, Γ32_47, g40, g46, g47]
  try rfl
-- spec.MeetCells
noncomputable def m27 (N : Nat) (v0 : Val Y32) (v1 : Val Y32) : Option (Vals [i32, i4]) := chk (isCell_pre v0) (bif (!((isCell v0) : Bool)) then (some (((0 : Int), ([] : List (Val Y36))), false, ())) else (chk (isCell_pre v1) (bif (!((isCell v1) : Bool)) then (some (((0 : Int), ([] : List (Val Y36))), false, ())) else (bif (!(decide ((v0.1 : Int) = (v1.1 : Int)))) then (some (((0 : Int), ([] : List (Val Y36))), false, ())) else (chk (([] : List (Val Y36)).length + (v0.2 : List (Val Y36)).length ≤ 1048576) (chk ((([] : List (Val Y36)) ++ (v0.2 : List (Val Y36))).length + (v1.2 : List (Val Y36)).length ≤ 1048576) (chk (nrmV_pre (v0.1 : Int) ((([] : List (Val Y36)) ++ (v0.2 : List (Val Y36))) ++ (v1.2 : List (Val Y36)))) (bif (decide ((16 : Int) < (((nrmV (v0.1 : Int) ((([] : List (Val Y36)) ++ (v0.2 : List (Val Y36))) ++ (v1.2 : List (Val Y36)))).2 : List (Val Y36)).length : Int))) then (some (((0 : Int), ([] : List (Val Y36))), false, ())) else (some ((nrmV (v0.1 : Int) ((([] : List (Val Y36)) ++ (v0.2 : List (Val Y36))) ++ (v1.2 : List (Val Y36)))), true, ()))))))))))
def Γ27 : Gam := [(38, g38), (44, g44)]
theorem Γ27_38 : Gam.get Γ27 38 = some g38 := rfl
theorem Γ27_44 : Gam.get Γ27 44 = some g44 := rfl
def nr27_3 : Nm := ⟨[false, false, false, false, true, false, true], []⟩
theorem nr27_3_fix : nr27_3.fix = [] := rfl
theorem nr27_3_keep : nr27_3.keep = [false, false, false, false, true, false, true] := rfl
def tr27 : Nat → Tree := fun i => if i = 3 then .keep 0 (.keep 1 (.keep 3 (.keep 4 (.keep 6 (.keep 7 (.alt 2 (.alt 5 (.alt 8 (.alt 9 (.alt 10 (.alt 11 .done .stop) .stop) (.alt 10 (.alt 9 (.alt 11 .done .stop) .stop) .stop)) (.alt 10 (.alt 8 (.alt 9 (.alt 11 .done .stop) .stop) .stop) .stop)) (.alt 10 (.alt 5 (.alt 8 (.alt 9 (.alt 11 .done .stop) .stop) .stop) .stop) .stop)) (.alt 10 (.alt 2 (.alt 5 (.alt 8 (.alt 9 (.alt 11 .done .stop) .stop) .stop) .stop) .stop) .stop))))))) else .done
def lp27 : Nat → Nm := fun _ => ⟨[], []⟩
def jn27 : Nat → Option Jn := fun _ => none
def ex27 : Nat → Option Nm := fun _ => none
def rg27 : Nat → Option Nm := fun i => if i = 3 then some nr27_3 else none
theorem p27 : plansOk tr27 (Try.f27.body.getD .skip) = true := by kernel_rfl
def T27 (N : Nat) : Tab := { tr := tr27, lp := lp27, ex := ex27, rg := rg27, jn := jn27, fuel := N }
theorem T27_pins (N : Nat) : (T27 N).pins = false := rfl
theorem tb27 (N : Nat) : TbOk Try.prog (T27 N) := tb_none fun _ => rfl
theorem T27_tr (N i : Nat) : (T27 N).tr i = tr27 i := rfl
theorem T27_lp (N i : Nat) : (T27 N).lp i = lp27 i := rfl
theorem T27_ex (N i : Nat) : (T27 N).ex i = ex27 i := rfl
theorem T27_rg (N i : Nat) : (T27 N).rg i = rg27 i := rfl
theorem T27_jn (N i : Nat) : (T27 N).jn i = jn27 i := rfl
theorem T27_fuel (N : Nat) : (T27 N).fuel = N := rfl
theorem run27 (N : Nat) (v0 : Val Y32) (v1 : Val Y32) : runT tt Γ27 (T27 N) (Try.f27.body.getD .skip) (retR tt false [i32, i4] [.cell 4 32, .tmp 5]) (entryP [i32, i32] 39 (v0, v1, ())) = m27 N v0 v1 := by
  rw [m27]; unfold Try.f27
  simp (maxSteps := 10000000) -implicitDefEqProofs [T27_tr, tr27, T27_lp, lp27, T27_ex, ex27, T27_rg, rg27, T27_jn, jn27, T27_fuel, T27_pins, nr27_3_fix, nr27_3_keep, Γ27_38, Γ27_44, g38, g44]
  try rfl
theorem okL_meet {a b : Val Y32} (ha : isCell a = true) (hb : isCell b = true) (h : (a.1 : Int) = (b.1 : Int)) : okL a.1 (List.append (α := Val Y36) a.2 b.2) ∧ (List.append (α := Val Y36) a.2 b.2).length ≤ 32 := by
  obtain ⟨a1, a2, a3⟩ := cell_in ha
  obtain ⟨b1, b2, b3⟩ := cell_in hb
  have e : (List.append (α := Val Y36) a.2 b.2).length = List.length (α := Val Y36) a.2 + List.length (α := Val Y36) b.2 := List.length_append
  refine ⟨⟨a1, by omega, fun x hx => ?_⟩, by omega⟩
  rcases List.mem_append.1 hx with hx | hx
  · exact a3 x hx
  · exact ⟨(b3 x hx).1, (b3 x hx).2.trans h.symm⟩
theorem e32 (a b : Val Y32) : ∃ N, m32 N a b = some ((meetV a b).1, (meetV a b).2, ()) := ⟨0, by
  rw [m32]
  unfold meetV
  cases ha : isCell a with
  | false => rfl
  | true =>
    cases hb : isCell b with
    | false => rfl
    | true =>
      by_cases h : (a.1 : Int) = (b.1 : Int)
      · obtain ⟨h1, h2⟩ := okL_meet ha hb h
        have e : catV ([(a.2 : List (Val Y36)), (b.2 : List (Val Y36))] : List (Val (.slice 36 Y36))) = List.append (α := Val Y36) a.2 b.2 := by simp [catV] <;> rfl
        rw [e, chk_pos (show catV_pre _ from ⟨by simp, by rw [e]; omega⟩), chk_pos (show limV_pre _ _ from h1)]
        simp only [h, decide_true, Bool.not_true, cond_false, Bool.and_self, cond_true]
        try rfl
      · simp only [h, decide_false, Bool.not_true, Bool.not_false, cond_false, Bool.and_self, Bool.and_false, cond_true]
        try rfl⟩
theorem s32 : Sound Try.prog 32 g32 := sound_run (tt := tt) (Γ := Γ32) hT (ok_cons s40 (ok_cons s46 (ok_cons s47 ok_nil))) hm (fn := Try.f32) Try.func32 (c := Try.f32.body.getD .skip) (by kernel_rfl) (by kernel_rfl) fun x hx => by
  obtain ⟨N, h⟩ := e32 x.1 x.2.1
  exact ⟨T32 N, p32, noSem_ok _, tb32 N, (run32 N x.1 x.2.1).trans h⟩
theorem e27 (a b : Val Y32) (h : meetV_pre a b) : ∃ N, m27 N a b = some ((meetV a b).1, (meetV a b).2, ()) := ⟨0, by
  rw [m27, chk_pos h.1, chk_pos h.2]
  unfold meetV
  cases ha : isCell a with
  | false => rfl
  | true =>
    cases hb : isCell b with
    | false => rfl
    | true =>
      by_cases h : (a.1 : Int) = (b.1 : Int)
      · obtain ⟨h1, h2⟩ := okL_meet ha hb h
        have e : (([] : List (Val Y36)) ++ (a.2 : List (Val Y36))) ++ (b.2 : List (Val Y36)) = List.append (α := Val Y36) a.2 b.2 := by simp <;> rfl
        have e2 : (List.append (α := Val Y36) a.2 b.2).length = List.length (α := Val Y36) a.2 + List.length (α := Val Y36) b.2 := List.length_append
        rw [e, chk_pos (by simp; omega), chk_pos (by simp; omega), chk_pos (show nrmV_pre _ _ from h1)]
        simp only [h, decide_true, Bool.not_true, cond_false, Bool.and_self, cond_true]
        unfold limV
        rw [← h]
        cases decide ((16 : Int) < (List.length (α := Val Y36) (nrmV a.1 (List.append (α := Val Y36) a.2 b.2)).2 : Int)) <;> rfl
      · simp only [h, decide_false, Bool.not_true, Bool.not_false, cond_false, Bool.and_self, Bool.and_false, cond_true]
        try rfl⟩
theorem s27 : Sound Try.prog 27 g27 := sound_run (tt := tt) (Γ := Γ27) hT (ok_cons s38 (ok_cons s44 ok_nil)) hm (fn := Try.f27) Try.func27 (c := Try.f27.body.getD .skip) (by kernel_rfl) (by kernel_rfl) fun x hx => by
  obtain ⟨N, h⟩ := e27 x.1 x.2.1 hx
  exact ⟨T27 N, p27, noSem_ok _, tb27 N, (run27 N x.1 x.2.1).trans h⟩
end Go.T
