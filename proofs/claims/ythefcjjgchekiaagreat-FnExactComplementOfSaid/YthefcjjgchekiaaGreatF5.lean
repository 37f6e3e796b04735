/- The law of ComplementOf. -/
import Derived.Test.YthefcjjgchekiaaGreatF4
import Derived.Test.YthefcjjgchekiaaGreatE14
set_option linter.unusedSimpArgs false
set_option linter.unusedVariables false
namespace Go.T
open Go Go.Proofs
set_option maxHeartbeats 4000000
set_option maxRecDepth 100000
noncomputable def m10 (N : Nat) (v0 : Val Y42) : Option (qb [i4]) := chk (qb6 v0 (1048576 : Int)) (bif (decide (((qaO v0 (1048576 : Int)) : Int) < (0 : Int))) then (some (true, ())) else (chk (qal v0) (chk (qzR (((qd v0).1 : Int), ((qd v0).2 : List (Val Y33)))) (chk (qal v0) (chk (qaA ((qT (((qd v0).1 : Int), ((qd v0).2 : List (Val Y33)))).1) ((qT (((qd v0).1 : Int), ((qd v0).2 : List (Val Y33)))).1)) (bif (!((qaT ((qT (((qd v0).1 : Int), ((qd v0).2 : List (Val Y33)))).1) ((qT (((qd v0).1 : Int), ((qd v0).2 : List (Val Y33)))).1)) : Bool)) then (some (false, ())) else (bif (!(((qT (((qd v0).1 : Int), ((qd v0).2 : List (Val Y33)))).2 : Bool) == ((qT (((qd v0).1 : Int), ((qd v0).2 : List (Val Y33)))).2 : Bool))) then (some (false, ())) else (chk (qal v0) (chk (qaA (((qd v0).1 : Int), ((qd v0).2 : List (Val Y33))) (((qd v0).1 : Int), ((qd v0).2 : List (Val Y33)))) (bif (!((qaT (((qd v0).1 : Int), ((qd v0).2 : List (Val Y33))) (((qd v0).1 : Int), ((qd v0).2 : List (Val Y33)))) : Bool)) then (some (false, ())) else (chk (qbM (((qd v0).1 : Int), ((qd v0).2 : List (Val Y33))) (1 : Int)) (bif (decide ((qZ (((qd v0).1 : Int), ((qd v0).2 : List (Val Y33))) (1 : Int)) < (0 : Int))) then (some (false, ())) else (chk (qaA ((qT (((qd v0).1 : Int), ((qd v0).2 : List (Val Y33)))).1) ((qT (((qd v0).1 : Int), ((qd v0).2 : List (Val Y33)))).1)) (bif (!((qaT ((qT (((qd v0).1 : Int), ((qd v0).2 : List (Val Y33)))).1) ((qT (((qd v0).1 : Int), ((qd v0).2 : List (Val Y33)))).1)) : Bool)) then (some (false, ())) else (bif (!(((qT (((qd v0).1 : Int), ((qd v0).2 : List (Val Y33)))).2 : Bool) == ((qT (((qd v0).1 : Int), ((qd v0).2 : List (Val Y33)))).2 : Bool))) then (some (false, ())) else (chk (qbM ((qT (((qd v0).1 : Int), ((qd v0).2 : List (Val Y33)))).1) (1 : Int)) (chk (qdG ((((qT (((qd v0).1 : Int), ((qd v0).2 : List (Val Y33)))).1).1 : Int), ((qac ((qT (((qd v0).1 : Int), ((qd v0).2 : List (Val Y33)))).1) (1 : Int)).2 : List (Val Y33))) (1 : Int)) (bif (decide (((qbx ((((qT (((qd v0).1 : Int), ((qd v0).2 : List (Val Y33)))).1).1 : Int), ((qac ((qT (((qd v0).1 : Int), ((qd v0).2 : List (Val Y33)))).1) (1 : Int)).2 : List (Val Y33))) (1 : Int)) : Int) < (0 : Int))) then (some (false, ())) else (bif (!(decide (((qbx ((((qT (((qd v0).1 : Int), ((qd v0).2 : List (Val Y33)))).1).1 : Int), ((qac ((qT (((qd v0).1 : Int), ((qd v0).2 : List (Val Y33)))).1) (1 : Int)).2 : List (Val Y33))) (1 : Int)) : Int) = (qZ ((qT (((qd v0).1 : Int), ((qd v0).2 : List (Val Y33)))).1) (1 : Int))))) then (some (false, ())) else (chk (qal v0) (chk (qaA ((qT (((qd v0).1 : Int), ((qd v0).2 : List (Val Y33)))).1) ((qT (((qd v0).1 : Int), ((qd v0).2 : List (Val Y33)))).1)) (bif (!((qaT ((qT (((qd v0).1 : Int), ((qd v0).2 : List (Val Y33)))).1) ((qT (((qd v0).1 : Int), ((qd v0).2 : List (Val Y33)))).1)) : Bool)) then (some (false, ())) else (bif (!(((qT (((qd v0).1 : Int), ((qd v0).2 : List (Val Y33)))).2 : Bool) == ((qT (((qd v0).1 : Int), ((qd v0).2 : List (Val Y33)))).2 : Bool))) then (some (false, ())) else (chk (qdG ((((qT (((qd v0).1 : Int), ((qd v0).2 : List (Val Y33)))).1).1 : Int), ((qac ((qT (((qd v0).1 : Int), ((qd v0).2 : List (Val Y33)))).1) (1 : Int)).2 : List (Val Y33))) (1 : Int)) (bif (decide (((qbx ((((qT (((qd v0).1 : Int), ((qd v0).2 : List (Val Y33)))).1).1 : Int), ((qac ((qT (((qd v0).1 : Int), ((qd v0).2 : List (Val Y33)))).1) (1 : Int)).2 : List (Val Y33))) (1 : Int)) : Int) < (0 : Int))) then (some (false, ())) else (bif (!(decide (((qbx ((((qT (((qd v0).1 : Int), ((qd v0).2 : List (Val Y33)))).1).1 : Int), ((qac ((qT (((qd v0).1 : Int), ((qd v0).2 : List (Val Y33)))).1) (1 : Int)).2 : List (Val Y33))) (1 : Int)) : Int) = (qZ ((qT (((qd v0).1 : Int), ((qd v0).2 : List (Val Y33)))).1) (1 : Int))))) then (some (false, ())) else (some (true, ()))))))))))))))))))))))))))))
def Γ10 : Gam := [(30, g30), (33, g33), (36, g36), (43, g43), (53, g53), (54, g54)]
theorem q4z : Gam.get Γ10 30 = some g30 := rfl
theorem q2w : Gam.get Γ10 33 = some g33 := rfl
theorem q7e : Gam.get Γ10 36 = some g36 := rfl
theorem q6P : Gam.get Γ10 43 = some g43 := rfl
theorem qWt : Gam.get Γ10 53 = some g53 := rfl
theorem zbf : Gam.get Γ10 54 = some g54 := rfl
theorem zdI : Gam.get Γ10 42 = none := rfl
def qJf : Sem := qep [(42, qjw)] []
def qwa : Nat → Tree := fun i => if i = 10 then .quiet 1 (.alt 0 (.alt 2 (.alt 3 (.quiet 4 .done) .stop) .stop) (.alt 2 (.quiet 0 (.alt 3 (.quiet 4 .done) .stop)) .stop)) else .done
def qEE : Nat → Nm := fun _ => ⟨[], [], false⟩
def qIx : Nat → Option Jn := fun _ => none
def qH8 : Nat → Option Nm := fun _ => none
def qCq : Nat → Option Nm := fun _ => none
theorem p10 : qj qwa (Tryz.f10.body.getD .skip) = true := by kernel_rfl
def T10 (N : Nat) : Tab := { tr := qwa, lp := qEE, ex := qH8, rg := qCq, jn := qIx, fuel := N, sem := qJf }
theorem q5r (N : Nat) : (T10 N).pins = false := rfl
theorem zb0 (N : Nat) : qk Tryz.prog (T10 N) := qp fun _ => rfl
theorem zat (N : Nat) : (T10 N).sem = qJf := rfl
theorem zbW (N : Nat) (i : Nat) : (T10 N).tr i = qwa i := rfl
theorem q6O (N : Nat) (i : Nat) : (T10 N).lp i = qEE i := rfl
theorem q2r (N : Nat) (i : Nat) : (T10 N).ex i = qH8 i := rfl
theorem q7M (N : Nat) (i : Nat) : (T10 N).rg i = qCq i := rfl
theorem qXP (N : Nat) (i : Nat) : (T10 N).jn i = qIx i := rfl
theorem q3G (N : Nat) : (T10 N).fuel = N := rfl
theorem q4Z (N : Nat) (v0 : Val Y42) : qf tt Γ10 (T10 N) (Tryz.f10.body.getD .skip) (qm tt true [i4] [.tmp 2]) (qq [i42] 96 (v0, ())) = m10 N v0 := by
  rw [m10]; unfold Tryz.f10
  simp (maxSteps := 10000000) -implicitDefEqProofs [zbW, qwa, q6O, qEE, q2r, qH8, q7M, qCq, qXP, qIx, q3G, q5r, zat, qJf, q9, zdI, qjw, q4z, q2w, q7e, q6P, qWt, zbf, g30, g33, g36, g43, g53, g54]
  try rfl
def qRw (_ : Val Y42) : Bool := true
def qTy (x0 : Val Y42) : Prop := Sms [i42] (x0, ())
def g10 : G := { ps := [i42], rs := [i4], dp := true, pre := fun x => qTy x.1, fn := fun x => (qRw x.1, ()) }
theorem q60 (a : Val Y50) : List.length (α := Val Y33) (qT a).1.2 ≤ 12 ∧ ∀ c ∈ ((qT a).1.2 : List (Val Y33)), qz c = true := by
  unfold qT
  cases qV a with
  | true => exact qJC _ _
  | false => exact ⟨Nat.zero_le _, fun c hc => by cases hc⟩
theorem e10 (x : Val Y42) (h : qTy x) : ∃ N, m10 N x = some (qRw x, ()) := ⟨0, by
  rw [m10, qe (show qb6 x 1048576 from ⟨h.1, by omega, by omega⟩)]
  by_cases c : qaO x 1048576 < 0
  · rw [qn c]; rfl
  rw [ql c]
  have hsz : 0 ≤ szV Y42 x 1048576 := by have : ¬ szV Y42 x 1048576 < 0 := c; omega
  have hle : szV Y42 x 1048576 ≤ 1048576 := (qbL Y42 x 1048576 (by omega)).1
  have hb : Bd Y42 x := qe4 Y42 x 1048576 (by omega) (by omega) hsz
  have hcx := qll Y50 x 1048576 rfl (by omega) hsz
  have hcx' : (qQ Y50 x : Int) ≤ 67108864 := by have : 0 ≤ szV Y50 x 1048576 := hsz; omega
  have hk1 : qZ x 1 = 1 + qQ Y50 x := qdS Y50 x 1 (by omega) (by omega)
  have eX : ((((qd x).1 : Int), ((qd x).2 : List (Val Y33))) : Val Y50) = qd x := rfl
  rw [eX]
  have hpc := q60 (qd x)
  have hpre : qzR (qd x) := qk2 hb
  generalize qT (qd x) = p at hpc ⊢
  obtain ⟨p, b⟩ := p
  obtain ⟨hpb, hpn⟩ := qDA (r := p) hpc
  have hK1 : qZ p 1 = 1 + qQ Y50 p := qdS Y50 p 1 (by omega) (by omega)
  have hv1 : qbx (((p.1 : Int), ((qac p 1).2 : List (Val Y33))) : Val Y50) 1 = qZ p 1 := congrArg Prod.snd (qgi Y50 p 1)
  have hh1 : qdG (((p.1 : Int), ((qac p 1).2 : List (Val Y33))) : Val Y50) 1 := ⟨congrArg Prod.fst (qgi Y50 p 1), qti _ _ _ hpb, by omega, by
    have : qQ Y50 (qac p 1) = qQ Y50 p := qrU _ _ _
    have e : qQ Y50 (((p.1 : Int), ((qac p 1).2 : List (Val Y33))) : Val Y50) = qQ Y50 (qac p 1) := rfl
    omega⟩
  have rf : ∀ z : Val Y50, qaT z z = true := fun z => qgl _ _
  have ep : qaA p p := hpb
  have tx : qal x := hb
  have exx : qaA (qd x) (qd x) := hb
  have m1 : qbM (qd x) 1 := ⟨hb, by omega⟩
  have e1 : qZ (qd x) 1 = qZ x 1 := rfl
  have m3 : qbM p 1 := ⟨hpb, by omega⟩
  have n1 : ¬ qZ (qd x) 1 < 0 := by omega
  have n2 : ¬ qZ p 1 < 0 := by omega
  dsimp only
  simp only [hv1, qe tx, qe hpre, qe ep, qe exx, qe m1, qe m3, qe hh1, rf, decide_eq_false n1, decide_eq_false n2, Bool.not_true, cond_false, beq_self_eq_true, decide_true]
  rfl⟩
theorem s10 : Sound Tryz.prog 10 g10 := qt (tt := tt) (Γ := Γ10) hT (qg s30 (qg s33 (qg s36 (qg s43 (qg s53 (qg s54 qo)))))) hm (fn := Tryz.f10) Tryz.func10 (c := Tryz.f10.body.getD .skip) (by kernel_rfl) (by kernel_rfl) fun x hx => by
  obtain ⟨N, h⟩ := e10 x.1 hx
  exact ⟨T10 N, p10, qi2 (qyn qFA qiS) qiQ, zb0 N, (q4Z N x.1).trans h⟩
end Go.T
