/- Meeting and cutting cells. -/
import Derived.Test.YthefcjjgchekiaaGreatB5
set_option linter.unusedSimpArgs false
set_option linter.unusedVariables false
namespace Go.T
open Go Go.Proofs
set_option maxHeartbeats 4000000
set_option maxRecDepth 100000
def qaL (d : Int) (l : List (Val qa)) : Val Y33 × Bool := bif decide ((16 : Int) < (List.length (α := Val qa) (qr d l).2 : Int)) then (((0 : Int), []), false) else (qr d l, true)
def qge (d : Int) (l : List (Val qa)) : Prop := okL d l
def qcY : G := { ps := [i3, i31], rs := [i33, i4], dp := true, pre := fun x => qge x.1 x.2.1, fn := fun x => ((qaL x.1 x.2.1).1, (qaL x.1 x.2.1).2, ()) }
noncomputable def qws (N : Nat) (v0 : Int) (v1 : List (Val qa)) : Option (qb [i33, i4]) := chk (qaX v0 v1) (bif (decide ((16 : Int) < (((qr v0 v1).2 : List (Val qa)).length : Int))) then (some (((0 : Int), ([] : List (Val qa))), false, ())) else (some ((((qr v0 v1).1 : Int), ((qr v0 v1).2 : List (Val qa))), true, ())))
def qMT : Gam := [(230, qdd)]
theorem qXM : Gam.get qMT 230 = some qdd := rfl
def qy7 : Nat → Tree := fun _ => .done
def qQc : Nat → Nm := fun _ => ⟨[], [], false⟩
def qCx : Nat → Option Jn := fun _ => none
def qBl : Nat → Option Nm := fun _ => none
def qPt : Nat → Option Nm := fun _ => none
theorem q6D : qj qy7 (Tryz.f255.body.getD .skip) = true := by kernel_rfl
def qey (N : Nat) : Tab := { tr := qy7, lp := qQc, ex := qBl, rg := qPt, jn := qCx, fuel := N }
theorem q4A (N : Nat) : (qey N).pins = false := rfl
theorem qXT (N : Nat) : qk Tryz.prog (qey N) := qp fun _ => rfl
theorem q8B (N : Nat) (i : Nat) : (qey N).tr i = qy7 i := rfl
theorem q6i (N : Nat) (i : Nat) : (qey N).lp i = qQc i := rfl
theorem zaF (N : Nat) (i : Nat) : (qey N).ex i = qBl i := rfl
theorem q9Y (N : Nat) (i : Nat) : (qey N).rg i = qPt i := rfl
theorem q6u (N : Nat) (i : Nat) : (qey N).jn i = qCx i := rfl
theorem q5B (N : Nat) : (qey N).fuel = N := rfl
theorem q8U (N : Nat) (v0 : Int) (v1 : List (Val qa)) : qf tt qMT (qey N) (Tryz.f255.body.getD .skip) (qm tt true [i33, i4] [.cell 4 33, .tmp 5]) (qq [i3, i31] 16 (v0, v1, ())) = qws N v0 v1 := by
  rw [qws]; unfold Tryz.f255
  simp (maxSteps := 10000000) -implicitDefEqProofs [q8B, qy7, q6i, qQc, zaF, qBl, q9Y, qPt, q6u, qCx, q5B, q4A, qXM, qdd]
  try rfl
theorem zfB (d : Int) (l : List (Val qa)) (h : qge d l) : ∃ N, qws N d l = some ((qaL d l).1, (qaL d l).2, ()) := ⟨0, by
  rw [qws, qe (show qaX d l from h)]
  unfold qaL
  cases decide ((16 : Int) < (List.length (α := Val qa) (qr d l).2 : Int)) <;> rfl⟩
theorem qQI : Sound Tryz.prog 255 qcY := qt (tt := tt) (Γ := qMT) hT (qg qQs qo) hm (fn := Tryz.f255) Tryz.func255 (c := Tryz.f255.body.getD .skip) (by kernel_rfl) (by kernel_rfl) fun x hx => by
  obtain ⟨N, h⟩ := zfB x.1 x.2.1 hx
  exact ⟨qey N, q6D, qw _, qXT N, (q8U N x.1 x.2.1).trans h⟩
def qO (a b : Val Y33) : Val Y33 × Bool := bif qz a && qz b && decide ((a.1 : Int) = (b.1 : Int)) then qaL a.1 (List.append (α := Val qa) a.2 b.2) else (((0 : Int), []), false)
def qlu (a b : Val Y33) : Prop := qbW a ∧ qbW b
def qdl : G := { ps := [i33, i33], rs := [i33, i4], dp := true, pre := fun _ => True, fn := fun x => ((qO x.1 x.2.1).1, (qO x.1 x.2.1).2, ()) }
def qdE : G := { ps := [i33, i33], rs := [i33, i4], dp := false, pre := fun x => qlu x.1 x.2.1, fn := fun x => ((qO x.1 x.2.1).1, (qO x.1 x.2.1).2, ()) }
noncomputable def qxb (N : Nat) (v0 : Val Y33) (v1 : Val Y33) : Option (qb [i33, i4]) := bif (!((qz v0) : Bool)) then (some (((0 : Int), ([] : List (Val qa))), false, ())) else (bif (!((qz v1) : Bool)) then (some (((0 : Int), ([] : List (Val qa))), false, ())) else (bif (!(decide ((v0.1 : Int) = (v1.1 : Int)))) then (some (((0 : Int), ([] : List (Val qa))), false, ())) else (chk (qwq ([(v0.2 : List (Val qa)), (v1.2 : List (Val qa))] : List (Val (.slice 108 qa)))) (chk (qge (v0.1 : Int) ((qeT ([(v0.2 : List (Val qa)), (v1.2 : List (Val qa))] : List (Val (.slice 108 qa)))) : List (Val qa))) (some (((((qaL (v0.1 : Int) ((qeT ([(v0.2 : List (Val qa)), (v1.2 : List (Val qa))] : List (Val (.slice 108 qa)))) : List (Val qa))).1).1 : Int), (((qaL (v0.1 : Int) ((qeT ([(v0.2 : List (Val qa)), (v1.2 : List (Val qa))] : List (Val (.slice 108 qa)))) : List (Val qa))).1).2 : List (Val qa))), ((qaL (v0.1 : Int) ((qeT ([(v0.2 : List (Val qa)), (v1.2 : List (Val qa))] : List (Val (.slice 108 qa)))) : List (Val qa))).2 : Bool), ()))))))
def qrA : Gam := [(199, qay), (219, quK), (255, qcY)]
theorem q5m : Gam.get qrA 199 = some qay := rfl
theorem q68 : Gam.get qrA 219 = some quK := rfl
theorem q4x : Gam.get qrA 255 = some qcY := rfl
def qzX : Nm := ⟨[false, false, false, false, true, true], [], false⟩
theorem zeC : qzX.zero = false := rfl
theorem q6t : qzX.fix = [] := rfl
theorem qVE : qzX.keep = [false, false, false, false, true, true] := rfl
def qxr : Nat → Tree := fun i => if i = 3 then .quiet 2 (.quiet 3 (.quiet 4 (.quiet 5 (.alt 0 (.alt 1 (.alt 6 (.alt 7 (.alt 8 (.quiet 9 (.quiet 10 (.alt 11 (.quiet 12 .done) .stop))) .stop) .stop) .stop) (.alt 6 (.alt 1 (.alt 7 (.alt 8 (.quiet 9 (.quiet 10 (.alt 11 (.quiet 12 .done) .stop))) .stop) .stop) (.alt 7 (.quiet 1 (.alt 8 (.quiet 9 (.quiet 10 (.alt 11 (.quiet 12 .done) .stop))) .stop)) .stop)) .stop)) (.alt 6 (.alt 0 (.alt 1 (.alt 7 (.alt 8 (.quiet 9 (.quiet 10 (.alt 11 (.quiet 12 .done) .stop))) .stop) .stop) (.alt 7 (.quiet 1 (.alt 8 (.quiet 9 (.quiet 10 (.alt 11 (.quiet 12 .done) .stop))) .stop)) .stop)) (.alt 7 (.quiet 0 (.quiet 1 (.alt 8 (.quiet 9 (.quiet 10 (.alt 11 (.quiet 12 .done) .stop))) .stop))) .stop)) .stop))))) else .done
def qEP : Nat → Nm := fun _ => ⟨[], [], false⟩
def qKk : Nat → Option Jn := fun _ => none
def qMB : Nat → Option Nm := fun _ => none
def qM0 : Nat → Option Nm := fun i => if i = 3 then some qzX else none
theorem zaw : qj qxr (Tryz.f182.body.getD .skip) = true := by kernel_rfl
def qeP (N : Nat) : Tab := { tr := qxr, lp := qEP, ex := qMB, rg := qM0, jn := qKk, fuel := N }
theorem zae (N : Nat) : (qeP N).pins = false := rfl
theorem zct (N : Nat) : qk Tryz.prog (qeP N) := qp fun _ => rfl
theorem zaD (N : Nat) (i : Nat) : (qeP N).tr i = qxr i := rfl
theorem qYp (N : Nat) (i : Nat) : (qeP N).lp i = qEP i := rfl
theorem q1u (N : Nat) (i : Nat) : (qeP N).ex i = qMB i := rfl
theorem q3p (N : Nat) (i : Nat) : (qeP N).rg i = qM0 i := rfl
theorem q2Y (N : Nat) (i : Nat) : (qeP N).jn i = qKk i := rfl
theorem q5H (N : Nat) : (qeP N).fuel = N := rfl
theorem qWM (N : Nat) (v0 : Val Y33) (v1 : Val Y33) : qf tt qrA (qeP N) (Tryz.f182.body.getD .skip) (qm tt true [i33, i4] [.cell 4 33, .tmp 5]) (qq [i33, i33] 33 (v0, v1, ())) = qxb N v0 v1 := by
  rw [qxb]; unfold Tryz.f182
  simp (maxSteps := 10000000) -implicitDefEqProofs [zaD, qxr, qYp, qEP, q1u, qMB, q3p, qM0, q2Y, qKk, q5H, zae, q6t, qVE, zeC, q5m, q68, q4x, qay, quK, qcY]
  try rfl
noncomputable def qzm (N : Nat) (v0 : Val Y33) (v1 : Val Y33) : Option (qb [i33, i4]) := chk (qbW v0) (bif (!((qz v0) : Bool)) then (some (((0 : Int), ([] : List (Val qa))), false, ())) else (chk (qbW v1) (bif (!((qz v1) : Bool)) then (some (((0 : Int), ([] : List (Val qa))), false, ())) else (bif (!(decide ((v0.1 : Int) = (v1.1 : Int)))) then (some (((0 : Int), ([] : List (Val qa))), false, ())) else (chk (([] : List (Val qa)).length + (v0.2 : List (Val qa)).length ≤ 1048576) (chk ((([] : List (Val qa)) ++ (v0.2 : List (Val qa))).length + (v1.2 : List (Val qa)).length ≤ 1048576) (chk (qaX (v0.1 : Int) ((([] : List (Val qa)) ++ (v0.2 : List (Val qa))) ++ (v1.2 : List (Val qa)))) (bif (decide ((16 : Int) < (((qr (v0.1 : Int) ((([] : List (Val qa)) ++ (v0.2 : List (Val qa))) ++ (v1.2 : List (Val qa)))).2 : List (Val qa)).length : Int))) then (some (((0 : Int), ([] : List (Val qa))), false, ())) else (some ((qr (v0.1 : Int) ((([] : List (Val qa)) ++ (v0.2 : List (Val qa))) ++ (v1.2 : List (Val qa)))), true, ()))))))))))
def qun : Gam := [(104, qcj), (150, qaq)]
theorem q19 : Gam.get qun 104 = some qcj := rfl
theorem q35 : Gam.get qun 150 = some qaq := rfl
def qy2 : Nm := ⟨[false, false, false, false, true, false, true], [], false⟩
theorem q0A : qy2.zero = false := rfl
theorem q8e : qy2.fix = [] := rfl
theorem zaW : qy2.keep = [false, false, false, false, true, false, true] := rfl
def qvo : Nat → Tree := fun i => if i = 3 then .keep 0 (.keep 1 (.keep 3 (.keep 4 (.keep 6 (.keep 7 (.alt 2 (.alt 5 (.alt 8 (.alt 9 (.alt 10 (.alt 11 .done .stop) .stop) (.alt 10 (.alt 9 (.alt 11 .done .stop) .stop) .stop)) (.alt 10 (.alt 8 (.alt 9 (.alt 11 .done .stop) .stop) .stop) .stop)) (.alt 10 (.alt 5 (.alt 8 (.alt 9 (.alt 11 .done .stop) .stop) .stop) .stop) .stop)) (.alt 10 (.alt 2 (.alt 5 (.alt 8 (.alt 9 (.alt 11 .done .stop) .stop) .stop) .stop) .stop) .stop))))))) else .done
def qQl : Nat → Nm := fun _ => ⟨[], [], false⟩
def qOi : Nat → Option Jn := fun _ => none
def qMI : Nat → Option Nm := fun _ => none
def qKO : Nat → Option Nm := fun i => if i = 3 then some qy2 else none
theorem q8N : qj qvo (Tryz.f178.body.getD .skip) = true := by kernel_rfl
def qeL (N : Nat) : Tab := { tr := qvo, lp := qQl, ex := qMI, rg := qKO, jn := qOi, fuel := N }
theorem qZx (N : Nat) : (qeL N).pins = false := rfl
theorem zaC (N : Nat) : qk Tryz.prog (qeL N) := qp fun _ => rfl
theorem zd6 (N : Nat) (i : Nat) : (qeL N).tr i = qvo i := rfl
theorem q26 (N : Nat) (i : Nat) : (qeL N).lp i = qQl i := rfl
theorem qWc (N : Nat) (i : Nat) : (qeL N).ex i = qMI i := rfl
theorem zel (N : Nat) (i : Nat) : (qeL N).rg i = qKO i := rfl
theorem qZq (N : Nat) (i : Nat) : (qeL N).jn i = qOi i := rfl
theorem q6F (N : Nat) : (qeL N).fuel = N := rfl
theorem qXx (N : Nat) (v0 : Val Y33) (v1 : Val Y33) : qf tt qun (qeL N) (Tryz.f178.body.getD .skip) (qm tt false [i33, i4] [.cell 4 33, .tmp 5]) (qq [i33, i33] 39 (v0, v1, ())) = qzm N v0 v1 := by
  rw [qzm]; unfold Tryz.f178
  simp (maxSteps := 10000000) -implicitDefEqProofs [zd6, qvo, q26, qQl, qWc, qMI, zel, qKO, qZq, qOi, q6F, qZx, q8e, zaW, q0A, q19, q35, qcj, qaq]
  try rfl
theorem qtP {a b : Val Y33} (ha : qz a = true) (hb : qz b = true) (h : (a.1 : Int) = (b.1 : Int)) : okL a.1 (List.append (α := Val qa) a.2 b.2) ∧ (List.append (α := Val qa) a.2 b.2).length ≤ 32 := by
  obtain ⟨a1, a2, a3⟩ := qbi ha
  obtain ⟨b1, b2, b3⟩ := qbi hb
  have e : (List.append (α := Val qa) a.2 b.2).length = List.length (α := Val qa) a.2 + List.length (α := Val qa) b.2 := List.length_append
  refine ⟨⟨a1, by omega, fun x hx => ?_⟩, by omega⟩
  rcases List.mem_append.1 hx with hx | hx
  · exact a3 x hx
  · exact ⟨(b3 x hx).1, (b3 x hx).2.trans h.symm⟩
theorem qZ1 (a b : Val Y33) : ∃ N, qxb N a b = some ((qO a b).1, (qO a b).2, ()) := ⟨0, by
  rw [qxb]
  unfold qO
  cases ha : qz a with
  | false => rfl
  | true =>
    cases hb : qz b with
    | false => rfl
    | true =>
      by_cases h : (a.1 : Int) = (b.1 : Int)
      · obtain ⟨h1, h2⟩ := qtP ha hb h
        have e : qeT ([(a.2 : List (Val qa)), (b.2 : List (Val qa))] : List (Val (.slice 108 qa))) = List.append (α := Val qa) a.2 b.2 := by simp [qeT] <;> rfl
        rw [e, qe (show qwq _ from ⟨by simp, by rw [e]; omega⟩), qe (show qge _ _ from h1)]
        simp only [h, decide_true, Bool.not_true, cond_false, Bool.and_self, cond_true]
        try rfl
      · simp only [h, decide_false, Bool.not_true, Bool.not_false, cond_false, Bool.and_self, Bool.and_false, cond_true]
        try rfl⟩
theorem qUk : Sound Tryz.prog 182 qdl := qt (tt := tt) (Γ := qrA) hT (qg qnN (qg q2K (qg qQI qo))) hm (fn := Tryz.f182) Tryz.func182 (c := Tryz.f182.body.getD .skip) (by kernel_rfl) (by kernel_rfl) fun x hx => by
  obtain ⟨N, h⟩ := qZ1 x.1 x.2.1
  exact ⟨qeP N, zaw, qw _, zct N, (qWM N x.1 x.2.1).trans h⟩
theorem zcD (a b : Val Y33) (h : qlu a b) : ∃ N, qzm N a b = some ((qO a b).1, (qO a b).2, ()) := ⟨0, by
  rw [qzm, qe h.1, qe h.2]
  unfold qO
  cases ha : qz a with
  | false => rfl
  | true =>
    cases hb : qz b with
    | false => rfl
    | true =>
      by_cases h : (a.1 : Int) = (b.1 : Int)
      · obtain ⟨h1, h2⟩ := qtP ha hb h
        have e : (([] : List (Val qa)) ++ (a.2 : List (Val qa))) ++ (b.2 : List (Val qa)) = List.append (α := Val qa) a.2 b.2 := by simp <;> rfl
        have e2 : (List.append (α := Val qa) a.2 b.2).length = List.length (α := Val qa) a.2 + List.length (α := Val qa) b.2 := List.length_append
        rw [e, qe (by simp; omega), qe (by simp; omega), qe (show qaX _ _ from h1)]
        simp only [h, decide_true, Bool.not_true, cond_false, Bool.and_self, cond_true]
        unfold qaL
        rw [← h]
        cases decide ((16 : Int) < (List.length (α := Val qa) (qr a.1 (List.append (α := Val qa) a.2 b.2)).2 : Int)) <;> rfl
      · simp only [h, decide_false, Bool.not_true, Bool.not_false, cond_false, Bool.and_self, Bool.and_false, cond_true]
        try rfl⟩
theorem qQX : Sound Tryz.prog 178 qdE := qt (tt := tt) (Γ := qun) hT (qg qOU (qg qoV qo)) hm (fn := Tryz.f178) Tryz.func178 (c := Tryz.f178.body.getD .skip) (by kernel_rfl) (by kernel_rfl) fun x hx => by
  obtain ⟨N, h⟩ := zcD x.1 x.2.1 hx
  exact ⟨qeL N, q8N, qw _, zaC N, (qXx N x.1 x.2.1).trans h⟩
end Go.T
