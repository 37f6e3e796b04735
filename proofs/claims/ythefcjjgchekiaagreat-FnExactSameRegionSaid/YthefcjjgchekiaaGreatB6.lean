/- Meeting and cutting cells. -/
import Derived.Test.YthefcjjgchekiaaGreatB5
set_option linter.unusedSimpArgs false
set_option linter.unusedVariables false
namespace Go.T
open Go Go.Proofs
set_option maxHeartbeats 4000000
set_option maxRecDepth 100000
def limV (d : Int) (l : List (Val Y108)) : Val Y33 × Bool := bif decide ((16 : Int) < (List.length (α := Val Y108) (nrmV d l).2 : Int)) then (((0 : Int), []), false) else (nrmV d l, true)
def limV_pre (d : Int) (l : List (Val Y108)) : Prop := okL d l
def g255 : G := { ps := [i3, i31], rs := [i33, i4], dp := true, pre := fun x => limV_pre x.1 x.2.1, fn := fun x => ((limV x.1 x.2.1).1, (limV x.1 x.2.1).2, ()) }
noncomputable def m255 (N : Nat) (v0 : Int) (v1 : List (Val Y108)) : Option (Vals [i33, i4]) := chk (nrmV_pre v0 v1) (bif (decide ((16 : Int) < (((nrmV v0 v1).2 : List (Val Y108)).length : Int))) then (some (((0 : Int), ([] : List (Val Y108))), false, ())) else (some ((((nrmV v0 v1).1 : Int), ((nrmV v0 v1).2 : List (Val Y108))), true, ())))
def Γ255 : Gam := [(230, g230)]
theorem Γ255_230 : Gam.get Γ255 230 = some g230 := rfl
def tr255 : Nat → Tree := fun _ => .done
def lp255 : Nat → Nm := fun _ => ⟨[], [], false⟩
def jn255 : Nat → Option Jn := fun _ => none
def ex255 : Nat → Option Nm := fun _ => none
def rg255 : Nat → Option Nm := fun _ => none
theorem p255 : plansOk tr255 (Tryz.f255.body.getD .skip) = true := by kernel_rfl
def T255 (N : Nat) : Tab := { tr := tr255, lp := lp255, ex := ex255, rg := rg255, jn := jn255, fuel := N }
theorem T255_pins (N : Nat) : (T255 N).pins = false := rfl
theorem tb255 (N : Nat) : TbOk Tryz.prog (T255 N) := tb_none fun _ => rfl
theorem T255_tr (N : Nat) (i : Nat) : (T255 N).tr i = tr255 i := rfl
theorem T255_lp (N : Nat) (i : Nat) : (T255 N).lp i = lp255 i := rfl
theorem T255_ex (N : Nat) (i : Nat) : (T255 N).ex i = ex255 i := rfl
theorem T255_rg (N : Nat) (i : Nat) : (T255 N).rg i = rg255 i := rfl
theorem T255_jn (N : Nat) (i : Nat) : (T255 N).jn i = jn255 i := rfl
theorem T255_fuel (N : Nat) : (T255 N).fuel = N := rfl
theorem run255 (N : Nat) (v0 : Int) (v1 : List (Val Y108)) : runT tt Γ255 (T255 N) (Tryz.f255.body.getD .skip) (retR tt true [i33, i4] [.cell 4 33, .tmp 5]) (entryP [i3, i31] 16 (v0, v1, ())) = m255 N v0 v1 := by
  rw [m255]; unfold Tryz.f255
  simp (maxSteps := 10000000) -implicitDefEqProofs [T255_tr, tr255, T255_lp, lp255, T255_ex, ex255, T255_rg, rg255, T255_jn, jn255, T255_fuel, T255_pins, Γ255_230, g230]
  try rfl
theorem e255 (d : Int) (l : List (Val Y108)) (h : limV_pre d l) : ∃ N, m255 N d l = some ((limV d l).1, (limV d l).2, ()) := ⟨0, by
  rw [m255, chk_pos (show nrmV_pre d l from h)]
  unfold limV
  cases decide ((16 : Int) < (List.length (α := Val Y108) (nrmV d l).2 : Int)) <;> rfl⟩
theorem s255 : Sound Tryz.prog 255 g255 := sound_run (tt := tt) (Γ := Γ255) hT (ok_cons s230 ok_nil) hm (fn := Tryz.f255) Tryz.func255 (c := Tryz.f255.body.getD .skip) (by kernel_rfl) (by kernel_rfl) fun x hx => by
  obtain ⟨N, h⟩ := e255 x.1 x.2.1 hx
  exact ⟨T255 N, p255, noSem_ok _, tb255 N, (run255 N x.1 x.2.1).trans h⟩
def meetV (a b : Val Y33) : Val Y33 × Bool := bif isCell a && isCell b && decide ((a.1 : Int) = (b.1 : Int)) then limV a.1 (List.append (α := Val Y108) a.2 b.2) else (((0 : Int), []), false)
def meetV_pre (a b : Val Y33) : Prop := isCell_pre a ∧ isCell_pre b
def g182 : G := { ps := [i33, i33], rs := [i33, i4], dp := true, pre := fun _ => True, fn := fun x => ((meetV x.1 x.2.1).1, (meetV x.1 x.2.1).2, ()) }
def g178 : G := { ps := [i33, i33], rs := [i33, i4], dp := false, pre := fun x => meetV_pre x.1 x.2.1, fn := fun x => ((meetV x.1 x.2.1).1, (meetV x.1 x.2.1).2, ()) }
noncomputable def m182 (N : Nat) (v0 : Val Y33) (v1 : Val Y33) : Option (Vals [i33, i4]) := bif (!((isCell v0) : Bool)) then (some (((0 : Int), ([] : List (Val Y108))), false, ())) else (bif (!((isCell v1) : Bool)) then (some (((0 : Int), ([] : List (Val Y108))), false, ())) else (bif (!(decide ((v0.1 : Int) = (v1.1 : Int)))) then (some (((0 : Int), ([] : List (Val Y108))), false, ())) else (chk (catV_pre ([(v0.2 : List (Val Y108)), (v1.2 : List (Val Y108))] : List (Val (.slice 108 Y108)))) (chk (limV_pre (v0.1 : Int) ((catV ([(v0.2 : List (Val Y108)), (v1.2 : List (Val Y108))] : List (Val (.slice 108 Y108)))) : List (Val Y108))) (some (((((limV (v0.1 : Int) ((catV ([(v0.2 : List (Val Y108)), (v1.2 : List (Val Y108))] : List (Val (.slice 108 Y108)))) : List (Val Y108))).1).1 : Int), (((limV (v0.1 : Int) ((catV ([(v0.2 : List (Val Y108)), (v1.2 : List (Val Y108))] : List (Val (.slice 108 Y108)))) : List (Val Y108))).1).2 : List (Val Y108))), ((limV (v0.1 : Int) ((catV ([(v0.2 : List (Val Y108)), (v1.2 : List (Val Y108))] : List (Val (.slice 108 Y108)))) : List (Val Y108))).2 : Bool), ()))))))
def Γ182 : Gam := [(199, g199), (219, g219), (255, g255)]
theorem Γ182_199 : Gam.get Γ182 199 = some g199 := rfl
theorem Γ182_219 : Gam.get Γ182 219 = some g219 := rfl
theorem Γ182_255 : Gam.get Γ182 255 = some g255 := rfl
def nr182_3 : Nm := ⟨[false, false, false, false, true, true], [], false⟩
theorem nr182_3_zero : nr182_3.zero = false := rfl
theorem nr182_3_fix : nr182_3.fix = [] := rfl
theorem nr182_3_keep : nr182_3.keep = [false, false, false, false, true, true] := rfl
def tr182 : Nat → Tree := fun i => if i = 3 then .quiet 2 (.quiet 3 (.quiet 4 (.quiet 5 (.alt 0 (.alt 1 (.alt 6 (.alt 7 (.alt 8 (.quiet 9 (.quiet 10 (.alt 11 (.quiet 12 .done) .stop))) .stop) .stop) .stop) (.alt 6 (.alt 1 (.alt 7 (.alt 8 (.quiet 9 (.quiet 10 (.alt 11 (.quiet 12 .done) .stop))) .stop) .stop) (.alt 7 (.quiet 1 (.alt 8 (.quiet 9 (.quiet 10 (.alt 11 (.quiet 12 .done) .stop))) .stop)) .stop)) .stop)) (.alt 6 (.alt 0 (.alt 1 (.alt 7 (.alt 8 (.quiet 9 (.quiet 10 (.alt 11 (.quiet 12 .done) .stop))) .stop) .stop) (.alt 7 (.quiet 1 (.alt 8 (.quiet 9 (.quiet 10 (.alt 11 (.quiet 12 .done) .stop))) .stop)) .stop)) (.alt 7 (.quiet 0 (.quiet 1 (.alt 8 (.quiet 9 (.quiet 10 (.alt 11 (.quiet 12 .done) .stop))) .stop))) .stop)) .stop))))) else .done
def lp182 : Nat → Nm := fun _ => ⟨[], [], false⟩
def jn182 : Nat → Option Jn := fun _ => none
def ex182 : Nat → Option Nm := fun _ => none
def rg182 : Nat → Option Nm := fun i => if i = 3 then some nr182_3 else none
theorem p182 : plansOk tr182 (Tryz.f182.body.getD .skip) = true := by kernel_rfl
def T182 (N : Nat) : Tab := { tr := tr182, lp := lp182, ex := ex182, rg := rg182, jn := jn182, fuel := N }
theorem T182_pins (N : Nat) : (T182 N).pins = false := rfl
theorem tb182 (N : Nat) : TbOk Tryz.prog (T182 N) := tb_none fun _ => rfl
theorem T182_tr (N : Nat) (i : Nat) : (T182 N).tr i = tr182 i := rfl
theorem T182_lp (N : Nat) (i : Nat) : (T182 N).lp i = lp182 i := rfl
theorem T182_ex (N : Nat) (i : Nat) : (T182 N).ex i = ex182 i := rfl
theorem T182_rg (N : Nat) (i : Nat) : (T182 N).rg i = rg182 i := rfl
theorem T182_jn (N : Nat) (i : Nat) : (T182 N).jn i = jn182 i := rfl
theorem T182_fuel (N : Nat) : (T182 N).fuel = N := rfl
theorem run182 (N : Nat) (v0 : Val Y33) (v1 : Val Y33) : runT tt Γ182 (T182 N) (Tryz.f182.body.getD .skip) (retR tt true [i33, i4] [.cell 4 33, .tmp 5]) (entryP [i33, i33] 33 (v0, v1, ())) = m182 N v0 v1 := by
  rw [m182]; unfold Tryz.f182
  simp (maxSteps := 10000000) -implicitDefEqProofs [T182_tr, tr182, T182_lp, lp182, T182_ex, ex182, T182_rg, rg182, T182_jn, jn182, T182_fuel, T182_pins, nr182_3_fix, nr182_3_keep, nr182_3_zero, Γ182_199, Γ182_219, Γ182_255, g199, g219, g255]
  try rfl
noncomputable def m178 (N : Nat) (v0 : Val Y33) (v1 : Val Y33) : Option (Vals [i33, i4]) := chk (isCell_pre v0) (bif (!((isCell v0) : Bool)) then (some (((0 : Int), ([] : List (Val Y108))), false, ())) else (chk (isCell_pre v1) (bif (!((isCell v1) : Bool)) then (some (((0 : Int), ([] : List (Val Y108))), false, ())) else (bif (!(decide ((v0.1 : Int) = (v1.1 : Int)))) then (some (((0 : Int), ([] : List (Val Y108))), false, ())) else (chk (([] : List (Val Y108)).length + (v0.2 : List (Val Y108)).length ≤ 1048576) (chk ((([] : List (Val Y108)) ++ (v0.2 : List (Val Y108))).length + (v1.2 : List (Val Y108)).length ≤ 1048576) (chk (nrmV_pre (v0.1 : Int) ((([] : List (Val Y108)) ++ (v0.2 : List (Val Y108))) ++ (v1.2 : List (Val Y108)))) (bif (decide ((16 : Int) < (((nrmV (v0.1 : Int) ((([] : List (Val Y108)) ++ (v0.2 : List (Val Y108))) ++ (v1.2 : List (Val Y108)))).2 : List (Val Y108)).length : Int))) then (some (((0 : Int), ([] : List (Val Y108))), false, ())) else (some ((nrmV (v0.1 : Int) ((([] : List (Val Y108)) ++ (v0.2 : List (Val Y108))) ++ (v1.2 : List (Val Y108)))), true, ()))))))))))
def Γ178 : Gam := [(104, g104), (150, g150)]
theorem Γ178_104 : Gam.get Γ178 104 = some g104 := rfl
theorem Γ178_150 : Gam.get Γ178 150 = some g150 := rfl
def nr178_3 : Nm := ⟨[false, false, false, false, true, false, true], [], false⟩
theorem nr178_3_zero : nr178_3.zero = false := rfl
theorem nr178_3_fix : nr178_3.fix = [] := rfl
theorem nr178_3_keep : nr178_3.keep = [false, false, false, false, true, false, true] := rfl
def tr178 : Nat → Tree := fun i => if i = 3 then .keep 0 (.keep 1 (.keep 3 (.keep 4 (.keep 6 (.keep 7 (.alt 2 (.alt 5 (.alt 8 (.alt 9 (.alt 10 (.alt 11 .done .stop) .stop) (.alt 10 (.alt 9 (.alt 11 .done .stop) .stop) .stop)) (.alt 10 (.alt 8 (.alt 9 (.alt 11 .done .stop) .stop) .stop) .stop)) (.alt 10 (.alt 5 (.alt 8 (.alt 9 (.alt 11 .done .stop) .stop) .stop) .stop) .stop)) (.alt 10 (.alt 2 (.alt 5 (.alt 8 (.alt 9 (.alt 11 .done .stop) .stop) .stop) .stop) .stop) .stop))))))) else .done
def lp178 : Nat → Nm := fun _ => ⟨[], [], false⟩
def jn178 : Nat → Option Jn := fun _ => none
def ex178 : Nat → Option Nm := fun _ => none
def rg178 : Nat → Option Nm := fun i => if i = 3 then some nr178_3 else none
theorem p178 : plansOk tr178 (Tryz.f178.body.getD .skip) = true := by kernel_rfl
def T178 (N : Nat) : Tab := { tr := tr178, lp := lp178, ex := ex178, rg := rg178, jn := jn178, fuel := N }
theorem T178_pins (N : Nat) : (T178 N).pins = false := rfl
theorem tb178 (N : Nat) : TbOk Tryz.prog (T178 N) := tb_none fun _ => rfl
theorem T178_tr (N : Nat) (i : Nat) : (T178 N).tr i = tr178 i := rfl
theorem T178_lp (N : Nat) (i : Nat) : (T178 N).lp i = lp178 i := rfl
theorem T178_ex (N : Nat) (i : Nat) : (T178 N).ex i = ex178 i := rfl
theorem T178_rg (N : Nat) (i : Nat) : (T178 N).rg i = rg178 i := rfl
theorem T178_jn (N : Nat) (i : Nat) : (T178 N).jn i = jn178 i := rfl
theorem T178_fuel (N : Nat) : (T178 N).fuel = N := rfl
theorem run178 (N : Nat) (v0 : Val Y33) (v1 : Val Y33) : runT tt Γ178 (T178 N) (Tryz.f178.body.getD .skip) (retR tt false [i33, i4] [.cell 4 33, .tmp 5]) (entryP [i33, i33] 39 (v0, v1, ())) = m178 N v0 v1 := by
  rw [m178]; unfold Tryz.f178
  simp (maxSteps := 10000000) -implicitDefEqProofs [T178_tr, tr178, T178_lp, lp178, T178_ex, ex178, T178_rg, rg178, T178_jn, jn178, T178_fuel, T178_pins, nr178_3_fix, nr178_3_keep, nr178_3_zero, Γ178_104, Γ178_150, g104, g150]
  try rfl
theorem okL_meet {a b : Val Y33} (ha : isCell a = true) (hb : isCell b = true) (h : (a.1 : Int) = (b.1 : Int)) : okL a.1 (List.append (α := Val Y108) a.2 b.2) ∧ (List.append (α := Val Y108) a.2 b.2).length ≤ 32 := by
  obtain ⟨a1, a2, a3⟩ := cell_in ha
  obtain ⟨b1, b2, b3⟩ := cell_in hb
  have e : (List.append (α := Val Y108) a.2 b.2).length = List.length (α := Val Y108) a.2 + List.length (α := Val Y108) b.2 := List.length_append
  refine ⟨⟨a1, by omega, fun x hx => ?_⟩, by omega⟩
  rcases List.mem_append.1 hx with hx | hx
  · exact a3 x hx
  · exact ⟨(b3 x hx).1, (b3 x hx).2.trans h.symm⟩
theorem e182 (a b : Val Y33) : ∃ N, m182 N a b = some ((meetV a b).1, (meetV a b).2, ()) := ⟨0, by
  rw [m182]
  unfold meetV
  cases ha : isCell a with
  | false => rfl
  | true =>
    cases hb : isCell b with
    | false => rfl
    | true =>
      by_cases h : (a.1 : Int) = (b.1 : Int)
      · obtain ⟨h1, h2⟩ := okL_meet ha hb h
        have e : catV ([(a.2 : List (Val Y108)), (b.2 : List (Val Y108))] : List (Val (.slice 108 Y108))) = List.append (α := Val Y108) a.2 b.2 := by simp [catV] <;> rfl
        rw [e, chk_pos (show catV_pre _ from ⟨by simp, by rw [e]; omega⟩), chk_pos (show limV_pre _ _ from h1)]
        simp only [h, decide_true, Bool.not_true, cond_false, Bool.and_self, cond_true]
        try rfl
      · simp only [h, decide_false, Bool.not_true, Bool.not_false, cond_false, Bool.and_self, Bool.and_false, cond_true]
        try rfl⟩
theorem s182 : Sound Tryz.prog 182 g182 := sound_run (tt := tt) (Γ := Γ182) hT (ok_cons s199 (ok_cons s219 (ok_cons s255 ok_nil))) hm (fn := Tryz.f182) Tryz.func182 (c := Tryz.f182.body.getD .skip) (by kernel_rfl) (by kernel_rfl) fun x hx => by
  obtain ⟨N, h⟩ := e182 x.1 x.2.1
  exact ⟨T182 N, p182, noSem_ok _, tb182 N, (run182 N x.1 x.2.1).trans h⟩
theorem e178 (a b : Val Y33) (h : meetV_pre a b) : ∃ N, m178 N a b = some ((meetV a b).1, (meetV a b).2, ()) := ⟨0, by
  rw [m178, chk_pos h.1, chk_pos h.2]
  unfold meetV
  cases ha : isCell a with
  | false => rfl
  | true =>
    cases hb : isCell b with
    | false => rfl
    | true =>
      by_cases h : (a.1 : Int) = (b.1 : Int)
      · obtain ⟨h1, h2⟩ := okL_meet ha hb h
        have e : (([] : List (Val Y108)) ++ (a.2 : List (Val Y108))) ++ (b.2 : List (Val Y108)) = List.append (α := Val Y108) a.2 b.2 := by simp <;> rfl
        have e2 : (List.append (α := Val Y108) a.2 b.2).length = List.length (α := Val Y108) a.2 + List.length (α := Val Y108) b.2 := List.length_append
        rw [e, chk_pos (by simp; omega), chk_pos (by simp; omega), chk_pos (show nrmV_pre _ _ from h1)]
        simp only [h, decide_true, Bool.not_true, cond_false, Bool.and_self, cond_true]
        unfold limV
        rw [← h]
        cases decide ((16 : Int) < (List.length (α := Val Y108) (nrmV a.1 (List.append (α := Val Y108) a.2 b.2)).2 : Int)) <;> rfl
      · simp only [h, decide_false, Bool.not_true, Bool.not_false, cond_false, Bool.and_self, Bool.and_false, cond_true]
        try rfl⟩
theorem s178 : Sound Tryz.prog 178 g178 := sound_run (tt := tt) (Γ := Γ178) hT (ok_cons s104 (ok_cons s150 ok_nil)) hm (fn := Tryz.f178) Tryz.func178 (c := Tryz.f178.body.getD .skip) (by kernel_rfl) (by kernel_rfl) fun x hx => by
  obtain ⟨N, h⟩ := e178 x.1 x.2.1 hx
  exact ⟨T178 N, p178, noSem_ok _, tb178 N, (run178 N x.1 x.2.1).trans h⟩
end Go.T
