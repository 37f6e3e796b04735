/- The law of DifferenceOf. -/
import Derived.Test.YthefcjjgchekiaaGreatF3
import Derived.Test.YthefcjjgchekiaaGreatF2
set_option linter.unusedSimpArgs false
set_option linter.unusedVariables false
namespace Go.T
open Go Go.Proofs
set_option maxHeartbeats 4000000
set_option maxRecDepth 100000
theorem qZn {xs : List (Val Y33)} {n : Nat} (hn : xs.length ≤ n) (hn' : n ≤ 1048576) (h : ∀ x ∈ xs, qz x = true) : Bd (.slice 33 Y33) xs ∧ qQ (.slice 33 Y33) xs ≤ n * 97 := by
  have hx : ∀ x ∈ xs, List.length (α := Val qa) x.2 ≤ 16 ∧ ∀ a ∈ (x.2 : List (Val qa)), List.length (α := Int) a.1 ≤ 4 := fun x hm => by
    obtain ⟨-, h2, h3⟩ := qbi (h x hm)
    exact ⟨h2, fun a ha => (qa5 (h3 a ha).1).1⟩
  refine ⟨⟨Nat.le_trans hn hn', fun x hm => ⟨trivial, Nat.le_trans (hx x hm).1 (by decide), fun a ha => ⟨⟨Nat.le_trans ((hx x hm).2 a ha) (by decide), fun _ _ => trivial⟩, trivial, trivial⟩⟩⟩, ?_⟩
  have e : qQ (.slice 33 Y33) xs = qaE (qX Y33) xs := rfl
  have := qD1 (f := qX Y33) (c := 97) xs fun x hm => by
    have e : qX Y33 x = 1 + qaE (qX qa) x.2 := rfl
    have h1 := (hx x hm).1
    have := qD1 (f := qX qa) (c := 6) x.2 fun a ha => by
      have e : qX qa a = qaE (qX (.int .i64)) a.1 + (1 + 1) := rfl
      rw [e, qSU]
      have := (hx x hm).2 a ha
      omega
    have : List.length (α := Val qa) x.2 * 6 ≤ 16 * 6 := Nat.mul_le_mul_right _ h1
    omega
  have : xs.length * 97 ≤ n * 97 := Nat.mul_le_mul_right _ hn
  omega
theorem qDA {r : Val Y50} (h : List.length (α := Val Y33) r.2 ≤ 12 ∧ ∀ c ∈ (r.2 : List (Val Y33)), qz c = true) : Bd Y50 r ∧ qQ Y50 r ≤ 1164 := by
  obtain ⟨h1, h2⟩ := qZn (xs := (r.2 : List (Val Y33))) h.1 (by decide) h.2
  have e : qQ Y50 r = 0 + qQ (.slice 33 Y33) r.2 := rfl
  exact ⟨⟨trivial, h1⟩, by omega⟩
theorem qU0 : ∀ (cs : List (Val Y33)) (r : Val Y50), (qaS cs r).2 = false → (qaS cs r).1 = (((0 : Int), []) : Val Y50)
  | [], _, h => absurd h (by simp [qaS])
  | c :: cs, r, h => by
    simp only [qaS] at h ⊢
    cases hm : (qH c).2 with
    | false => rfl
    | true =>
      rw [hm] at h
      cases hl : (qa2 r (qH c).1).2 with
      | false => rfl
      | true => rw [hl] at h; exact qU0 cs _ h
theorem zef {a b : Val Y50} (h : (qx a b).2 = false) : (qx a b).1 = (((0 : Int), []) : Val Y50) := by
  unfold qx at h ⊢
  cases hb : (qV a && qV b && decide ((a.1 : Int) = (b.1 : Int))) with
  | false => rfl
  | true =>
    rw [hb] at h
    cases hn : (qap a).2 with
    | false => rfl
    | true => rw [hn] at h; exact qU0 b.2 _ h
theorem qJC (a b : Val Y50) : List.length (α := Val Y33) (qx a b).1.2 ≤ 12 ∧ ∀ c ∈ ((qx a b).1.2 : List (Val Y33)), qz c = true := by
  cases h : (qx a b).2 with
  | true =>
    obtain ⟨_, h2, h3⟩ := qb3 (qQJ h).1
    exact ⟨h2, fun c hc => (h3 c hc).1⟩
  | false =>
    rw [zef h]
    exact ⟨Nat.zero_le _, fun c hc => by cases hc⟩
noncomputable def m7 (N : Nat) (v0 : Val Y42) (v1 : Val Y42) : Option (qb [i4]) := chk (qb6 v0 (1048576 : Int)) (bif (decide (((qaO v0 (1048576 : Int)) : Int) < (0 : Int))) then (some (true, ())) else (chk (qb6 v1 ((qaO v0 (1048576 : Int)) : Int)) (bif (decide (((qaO v1 ((qaO v0 (1048576 : Int)) : Int)) : Int) < (0 : Int))) then (some (true, ())) else (chk (qal v0) (chk (qal v1) (chk (qdh (((qd v0).1 : Int), ((qd v0).2 : List (Val Y33))) (((qd v1).1 : Int), ((qd v1).2 : List (Val Y33)))) (chk (qal v0) (chk (qal v1) (chk (qaA ((qx (((qd v0).1 : Int), ((qd v0).2 : List (Val Y33))) (((qd v1).1 : Int), ((qd v1).2 : List (Val Y33)))).1) ((qx (((qd v0).1 : Int), ((qd v0).2 : List (Val Y33))) (((qd v1).1 : Int), ((qd v1).2 : List (Val Y33)))).1)) (bif (!((qaT ((qx (((qd v0).1 : Int), ((qd v0).2 : List (Val Y33))) (((qd v1).1 : Int), ((qd v1).2 : List (Val Y33)))).1) ((qx (((qd v0).1 : Int), ((qd v0).2 : List (Val Y33))) (((qd v1).1 : Int), ((qd v1).2 : List (Val Y33)))).1)) : Bool)) then (some (false, ())) else (bif (!(((qx (((qd v0).1 : Int), ((qd v0).2 : List (Val Y33))) (((qd v1).1 : Int), ((qd v1).2 : List (Val Y33)))).2 : Bool) == ((qx (((qd v0).1 : Int), ((qd v0).2 : List (Val Y33))) (((qd v1).1 : Int), ((qd v1).2 : List (Val Y33)))).2 : Bool))) then (some (false, ())) else (chk (qal v0) (chk (qaA (((qd v0).1 : Int), ((qd v0).2 : List (Val Y33))) (((qd v0).1 : Int), ((qd v0).2 : List (Val Y33)))) (bif (!((qaT (((qd v0).1 : Int), ((qd v0).2 : List (Val Y33))) (((qd v0).1 : Int), ((qd v0).2 : List (Val Y33)))) : Bool)) then (some (false, ())) else (chk (qal v1) (chk (qaA (((qd v1).1 : Int), ((qd v1).2 : List (Val Y33))) (((qd v1).1 : Int), ((qd v1).2 : List (Val Y33)))) (bif (!((qaT (((qd v1).1 : Int), ((qd v1).2 : List (Val Y33))) (((qd v1).1 : Int), ((qd v1).2 : List (Val Y33)))) : Bool)) then (some (false, ())) else (chk (qbM (((qd v0).1 : Int), ((qd v0).2 : List (Val Y33))) (1 : Int)) (chk (qbM (((qd v1).1 : Int), ((qd v1).2 : List (Val Y33))) (qZ (((qd v0).1 : Int), ((qd v0).2 : List (Val Y33))) (1 : Int))) (bif (decide ((qZ (((qd v1).1 : Int), ((qd v1).2 : List (Val Y33))) (qZ (((qd v0).1 : Int), ((qd v0).2 : List (Val Y33))) (1 : Int))) < (0 : Int))) then (some (false, ())) else (chk (qaA ((qx (((qd v0).1 : Int), ((qd v0).2 : List (Val Y33))) (((qd v1).1 : Int), ((qd v1).2 : List (Val Y33)))).1) ((qx (((qd v0).1 : Int), ((qd v0).2 : List (Val Y33))) (((qd v1).1 : Int), ((qd v1).2 : List (Val Y33)))).1)) (bif (!((qaT ((qx (((qd v0).1 : Int), ((qd v0).2 : List (Val Y33))) (((qd v1).1 : Int), ((qd v1).2 : List (Val Y33)))).1) ((qx (((qd v0).1 : Int), ((qd v0).2 : List (Val Y33))) (((qd v1).1 : Int), ((qd v1).2 : List (Val Y33)))).1)) : Bool)) then (some (false, ())) else (bif (!(((qx (((qd v0).1 : Int), ((qd v0).2 : List (Val Y33))) (((qd v1).1 : Int), ((qd v1).2 : List (Val Y33)))).2 : Bool) == ((qx (((qd v0).1 : Int), ((qd v0).2 : List (Val Y33))) (((qd v1).1 : Int), ((qd v1).2 : List (Val Y33)))).2 : Bool))) then (some (false, ())) else (chk (qbM ((qx (((qd v0).1 : Int), ((qd v0).2 : List (Val Y33))) (((qd v1).1 : Int), ((qd v1).2 : List (Val Y33)))).1) (1 : Int)) (chk (qdG ((((qx (((qd v0).1 : Int), ((qd v0).2 : List (Val Y33))) (((qd v1).1 : Int), ((qd v1).2 : List (Val Y33)))).1).1 : Int), ((qac ((qx (((qd v0).1 : Int), ((qd v0).2 : List (Val Y33))) (((qd v1).1 : Int), ((qd v1).2 : List (Val Y33)))).1) (1 : Int)).2 : List (Val Y33))) (1 : Int)) (bif (decide (((qbx ((((qx (((qd v0).1 : Int), ((qd v0).2 : List (Val Y33))) (((qd v1).1 : Int), ((qd v1).2 : List (Val Y33)))).1).1 : Int), ((qac ((qx (((qd v0).1 : Int), ((qd v0).2 : List (Val Y33))) (((qd v1).1 : Int), ((qd v1).2 : List (Val Y33)))).1) (1 : Int)).2 : List (Val Y33))) (1 : Int)) : Int) < (0 : Int))) then (some (false, ())) else (bif (!(decide (((qbx ((((qx (((qd v0).1 : Int), ((qd v0).2 : List (Val Y33))) (((qd v1).1 : Int), ((qd v1).2 : List (Val Y33)))).1).1 : Int), ((qac ((qx (((qd v0).1 : Int), ((qd v0).2 : List (Val Y33))) (((qd v1).1 : Int), ((qd v1).2 : List (Val Y33)))).1) (1 : Int)).2 : List (Val Y33))) (1 : Int)) : Int) = (qZ ((qx (((qd v0).1 : Int), ((qd v0).2 : List (Val Y33))) (((qd v1).1 : Int), ((qd v1).2 : List (Val Y33)))).1) (1 : Int))))) then (some (false, ())) else (chk (qal v0) (chk (qal v1) (chk (qaA ((qx (((qd v0).1 : Int), ((qd v0).2 : List (Val Y33))) (((qd v1).1 : Int), ((qd v1).2 : List (Val Y33)))).1) ((qx (((qd v0).1 : Int), ((qd v0).2 : List (Val Y33))) (((qd v1).1 : Int), ((qd v1).2 : List (Val Y33)))).1)) (bif (!((qaT ((qx (((qd v0).1 : Int), ((qd v0).2 : List (Val Y33))) (((qd v1).1 : Int), ((qd v1).2 : List (Val Y33)))).1) ((qx (((qd v0).1 : Int), ((qd v0).2 : List (Val Y33))) (((qd v1).1 : Int), ((qd v1).2 : List (Val Y33)))).1)) : Bool)) then (some (false, ())) else (bif (!(((qx (((qd v0).1 : Int), ((qd v0).2 : List (Val Y33))) (((qd v1).1 : Int), ((qd v1).2 : List (Val Y33)))).2 : Bool) == ((qx (((qd v0).1 : Int), ((qd v0).2 : List (Val Y33))) (((qd v1).1 : Int), ((qd v1).2 : List (Val Y33)))).2 : Bool))) then (some (false, ())) else (chk (qdG ((((qx (((qd v0).1 : Int), ((qd v0).2 : List (Val Y33))) (((qd v1).1 : Int), ((qd v1).2 : List (Val Y33)))).1).1 : Int), ((qac ((qx (((qd v0).1 : Int), ((qd v0).2 : List (Val Y33))) (((qd v1).1 : Int), ((qd v1).2 : List (Val Y33)))).1) (1 : Int)).2 : List (Val Y33))) (1 : Int)) (bif (decide (((qbx ((((qx (((qd v0).1 : Int), ((qd v0).2 : List (Val Y33))) (((qd v1).1 : Int), ((qd v1).2 : List (Val Y33)))).1).1 : Int), ((qac ((qx (((qd v0).1 : Int), ((qd v0).2 : List (Val Y33))) (((qd v1).1 : Int), ((qd v1).2 : List (Val Y33)))).1) (1 : Int)).2 : List (Val Y33))) (1 : Int)) : Int) < (0 : Int))) then (some (false, ())) else (bif (!(decide (((qbx ((((qx (((qd v0).1 : Int), ((qd v0).2 : List (Val Y33))) (((qd v1).1 : Int), ((qd v1).2 : List (Val Y33)))).1).1 : Int), ((qac ((qx (((qd v0).1 : Int), ((qd v0).2 : List (Val Y33))) (((qd v1).1 : Int), ((qd v1).2 : List (Val Y33)))).1) (1 : Int)).2 : List (Val Y33))) (1 : Int)) : Int) = (qZ ((qx (((qd v0).1 : Int), ((qd v0).2 : List (Val Y33))) (((qd v1).1 : Int), ((qd v1).2 : List (Val Y33)))).1) (1 : Int))))) then (some (false, ())) else (some (true, ())))))))))))))))))))))))))))))))))))))
def Γ7 : Gam := [(30, g30), (33, g33), (36, g36), (43, g43), (44, g44), (45, g45)]
theorem q3O : Gam.get Γ7 30 = some g30 := rfl
theorem q33 : Gam.get Γ7 33 = some g33 := rfl
theorem q6A : Gam.get Γ7 36 = some g36 := rfl
theorem q8S : Gam.get Γ7 43 = some g43 := rfl
theorem qXI : Gam.get Γ7 44 = some g44 := rfl
theorem qZS : Gam.get Γ7 45 = some g45 := rfl
theorem q01 : Gam.get Γ7 42 = none := rfl
def qzU : Nm := ⟨[false, false, true, true, false, false, true, true], [], false⟩
theorem zer : qzU.zero = false := rfl
theorem zeS : qzU.fix = [] := rfl
theorem q58 : qzU.keep = [false, false, true, true, false, false, true, true] := rfl
def qwd : Nm := ⟨[false, false, false, false, false, false, true, true, false, false, true, false, false, true, false, true, true], [], false⟩
theorem q13 : qwd.zero = false := rfl
theorem q0B : qwd.fix = [] := rfl
theorem zcu : qwd.keep = [false, false, false, false, false, false, true, true, false, false, true, false, false, true, false, true, true] := rfl
def qGO : Sem := qep [(42, qjw)] []
def tr7 : Nat → Tree := fun i => if i = 8 then .grow 0 (.alt 1 (.grow 2 (.alt 3 (.alt 4 (.first 5 (.first 6 (.first 7 (.alt 8 (.alt 9 (.quiet 10 .done) .stop) .stop)))) (.alt 8 (.alt 4 (.quiet 5 (.quiet 6 (.first 7 (.alt 9 (.quiet 10 .done) .stop)))) .stop) .stop)) (.alt 8 (.alt 3 (.alt 4 (.quiet 5 (.quiet 6 (.first 7 (.alt 9 (.quiet 10 .done) .stop)))) .stop) .stop) .stop))) (.alt 2 (.alt 1 (.alt 3 (.alt 4 (.first 5 (.first 6 (.first 7 (.alt 8 (.alt 9 (.quiet 10 .done) .stop) .stop)))) (.alt 8 (.alt 4 (.quiet 5 (.quiet 6 (.first 7 (.alt 9 (.quiet 10 .done) .stop)))) .stop) .stop)) (.alt 8 (.alt 3 (.alt 4 (.quiet 5 (.quiet 6 (.first 7 (.alt 9 (.quiet 10 .done) .stop)))) .stop) .stop) .stop)) (.alt 8 (.alt 1 (.alt 3 (.alt 4 (.quiet 5 (.quiet 6 (.first 7 (.alt 9 (.quiet 10 .done) .stop)))) .stop) .stop) .stop) .stop)) (.alt 8 (.alt 1 (.quiet 2 (.alt 3 (.alt 4 (.quiet 5 (.quiet 6 (.first 7 (.alt 9 (.quiet 10 .done) .stop)))) .stop) .stop)) (.alt 2 (.alt 1 (.alt 3 (.alt 4 (.quiet 5 (.quiet 6 (.first 7 (.alt 9 (.quiet 10 .done) .stop)))) .stop) .stop) .stop) .stop)) .stop))) else if i = 14 then .quiet 1 (.alt 0 (.alt 2 (.alt 3 (.quiet 4 .done) .stop) .stop) (.alt 2 (.quiet 0 (.alt 3 (.quiet 4 .done) .stop)) .stop)) else if i = 16 then .quiet 1 (.alt 0 (.alt 2 (.alt 3 (.quiet 4 .done) .stop) .stop) (.alt 2 (.quiet 0 (.alt 3 (.quiet 4 .done) .stop)) .stop)) else if i = 31 then .grow 0 (.alt 1 (.grow 2 (.alt 3 (.alt 4 (.first 5 (.first 6 (.first 7 (.alt 8 (.alt 9 (.quiet 10 .done) .stop) .stop)))) (.alt 8 (.alt 4 (.quiet 5 (.quiet 6 (.first 7 (.alt 9 (.quiet 10 .done) .stop)))) .stop) .stop)) (.alt 8 (.alt 3 (.alt 4 (.quiet 5 (.quiet 6 (.first 7 (.alt 9 (.quiet 10 .done) .stop)))) .stop) .stop) .stop))) (.alt 2 (.alt 1 (.alt 3 (.alt 4 (.first 5 (.first 6 (.first 7 (.alt 8 (.alt 9 (.quiet 10 .done) .stop) .stop)))) (.alt 8 (.alt 4 (.quiet 5 (.quiet 6 (.first 7 (.alt 9 (.quiet 10 .done) .stop)))) .stop) .stop)) (.alt 8 (.alt 3 (.alt 4 (.quiet 5 (.quiet 6 (.first 7 (.alt 9 (.quiet 10 .done) .stop)))) .stop) .stop) .stop)) (.alt 8 (.alt 1 (.alt 3 (.alt 4 (.quiet 5 (.quiet 6 (.first 7 (.alt 9 (.quiet 10 .done) .stop)))) .stop) .stop) .stop) .stop)) (.alt 8 (.alt 1 (.quiet 2 (.alt 3 (.alt 4 (.quiet 5 (.quiet 6 (.first 7 (.alt 9 (.quiet 10 .done) .stop)))) .stop) .stop)) (.alt 2 (.alt 1 (.alt 3 (.alt 4 (.quiet 5 (.quiet 6 (.first 7 (.alt 9 (.quiet 10 .done) .stop)))) .stop) .stop) .stop) .stop)) .stop))) else .done
def lp7 : Nat → Nm := fun _ => ⟨[], [], false⟩
def jn7 : Nat → Option Jn := fun _ => none
def ex7 : Nat → Option Nm := fun _ => none
def rg7 : Nat → Option Nm := fun i => if i = 8 then some qzU else if i = 31 then some qwd else none
theorem p7 : qj tr7 (Tryz.f7.body.getD .skip) = true := by kernel_rfl
def T7 (N : Nat) : Tab := { tr := tr7, lp := lp7, ex := ex7, rg := rg7, jn := jn7, fuel := N, sem := qGO }
theorem qWk (N : Nat) : (T7 N).pins = false := rfl
theorem tb7 (N : Nat) : qk Tryz.prog (T7 N) := qp fun _ => rfl
theorem q0v (N : Nat) : (T7 N).sem = qGO := rfl
theorem q0l (N : Nat) (i : Nat) : (T7 N).tr i = tr7 i := rfl
theorem zeK (N : Nat) (i : Nat) : (T7 N).lp i = lp7 i := rfl
theorem q3D (N : Nat) (i : Nat) : (T7 N).ex i = ex7 i := rfl
theorem q05 (N : Nat) (i : Nat) : (T7 N).rg i = rg7 i := rfl
theorem zaz (N : Nat) (i : Nat) : (T7 N).jn i = jn7 i := rfl
theorem q8W (N : Nat) : (T7 N).fuel = N := rfl
theorem q16 (N : Nat) (v0 : Val Y42) (v1 : Val Y42) : qf tt Γ7 (T7 N) (Tryz.f7.body.getD .skip) (qm tt true [i4] [.tmp 4]) (qq [i42, i42] 119 (v0, v1, ())) = m7 N v0 v1 := by
  rw [m7]; unfold Tryz.f7
  simp (maxSteps := 10000000) -implicitDefEqProofs [q0l, tr7, zeK, lp7, q3D, ex7, q05, rg7, zaz, jn7, q8W, qWk, q0v, qGO, q9, q01, qjw, zeS, q58, zer, q0B, zcu, q13, q3O, q33, q6A, q8S, qXI, qZS, g30, g33, g36, g43, g44, g45]
  try rfl
def qSz (_ : Val Y42) (_ : Val Y42) : Bool := true
def qSP (x0 : Val Y42) (x1 : Val Y42) : Prop := Sms [i42, i42] (x0, x1, ())
def g7 : G := { ps := [i42, i42], rs := [i4], dp := true, pre := fun x => qSP x.1 x.2.1, fn := fun x => (qSz x.1 x.2.1, ()) }
theorem e7 (x y : Val Y42) (h : qSP x y) : ∃ N, m7 N x y = some (qSz x y, ()) := ⟨0, by
  rw [m7, qe (show qb6 x 1048576 from ⟨h.1, by omega, by omega⟩)]
  by_cases c : qaO x 1048576 < 0
  · rw [qn c]; rfl
  rw [ql c]
  have hsz : 0 ≤ szV Y42 x 1048576 := by have : ¬ szV Y42 x 1048576 < 0 := c; omega
  have hle : szV Y42 x 1048576 ≤ 1048576 := (qbL Y42 x 1048576 (by omega)).1
  have hb : Bd Y42 x := qe4 Y42 x 1048576 (by omega) (by omega) hsz
  have hcx := qll Y50 x 1048576 rfl (by omega) hsz
  rw [qe (show qb6 y (qaO x 1048576) from ⟨h.2.1, hsz, hle⟩)]
  generalize hr : qaO x 1048576 = r at *
  have hr' : szV Y42 x 1048576 = r := hr
  by_cases c2 : qaO y r < 0
  · rw [qn c2]; rfl
  rw [ql c2]
  have hr0 : 0 ≤ r := by omega
  have hr1 : r ≤ 1048576 := by omega
  have hsz2 : 0 ≤ szV Y42 y r := by have : ¬ szV Y42 y r < 0 := c2; omega
  have hy : Bd Y42 y := qe4 Y42 y r hr0 hr1 hsz2
  have hcy := qll Y50 y r rfl hr0 hsz2
  have hcx' : (qQ Y50 x : Int) ≤ 67108864 := by have : szV Y50 x 1048576 = r := hr; omega
  have hcy' : (qQ Y50 y : Int) ≤ 67108864 := by have : 0 ≤ szV Y50 y r := hsz2; omega
  have hk1 : qZ x 1 = 1 + qQ Y50 x := qdS Y50 x 1 (by omega) (by omega)
  have hk2 : qZ y (qZ x 1) = qZ x 1 + qQ Y50 y := qdS Y50 y _ (by omega) (by omega)
  have eX : ((((qd x).1 : Int), ((qd x).2 : List (Val Y33))) : Val Y50) = qd x := rfl
  have eY : ((((qd y).1 : Int), ((qd y).2 : List (Val Y33))) : Val Y50) = qd y := rfl
  rw [eX, eY]
  have hpc := qJC (qd x) (qd y)
  have hpre : qdh (qd x) (qd y) := ⟨qk2 hb, qk2 hy⟩
  generalize qx (qd x) (qd y) = p at hpc ⊢
  obtain ⟨p, b⟩ := p
  obtain ⟨hpb, hpn⟩ := qDA (r := p) hpc
  have hK1 : qZ p 1 = 1 + qQ Y50 p := qdS Y50 p 1 (by omega) (by omega)
  have hv1 : qbx (((p.1 : Int), ((qac p 1).2 : List (Val Y33))) : Val Y50) 1 = qZ p 1 := congrArg Prod.snd (qgi Y50 p 1)
  have hh1 : qdG (((p.1 : Int), ((qac p 1).2 : List (Val Y33))) : Val Y50) 1 := ⟨congrArg Prod.fst (qgi Y50 p 1), qti _ _ _ hpb, by omega, by
    have : qQ Y50 (qac p 1) = qQ Y50 p := qrU _ _ _
    have e : qQ Y50 (((p.1 : Int), ((qac p 1).2 : List (Val Y33))) : Val Y50) = qQ Y50 (qac p 1) := rfl
    omega⟩
  have rf : ∀ z : Val Y50, qaT z z = true := fun z => qgl _ _
  have ep : qaA p p := hpb
  have tx : qal x := hb
  have ty : qal y := hy
  have exx : qaA (qd x) (qd x) := hb
  have eyy : qaA (qd y) (qd y) := hy
  have m1 : qbM (qd x) 1 := ⟨hb, by omega⟩
  have e1 : qZ (qd x) 1 = qZ x 1 := rfl
  have e2 : qZ (qd y) (qZ (qd x) 1) = qZ y (qZ x 1) := rfl
  have m2 : qbM (qd y) (qZ (qd x) 1) := ⟨hy, by omega⟩
  have m3 : qbM p 1 := ⟨hpb, by omega⟩
  have n1 : ¬ qZ (qd y) (qZ (qd x) 1) < 0 := by omega
  have n2 : ¬ qZ p 1 < 0 := by omega
  dsimp only
  simp only [hv1, qe tx, qe ty, qe hpre, qe ep, qe exx, qe eyy, qe m1, qe m2, qe m3, qe hh1, rf, decide_eq_false n1, decide_eq_false n2, Bool.not_true, cond_false, beq_self_eq_true, decide_true]
  rfl⟩
theorem s7 : Sound Tryz.prog 7 g7 := qt (tt := tt) (Γ := Γ7) hT (qg s30 (qg s33 (qg s36 (qg s43 (qg s44 (qg s45 qo)))))) hm (fn := Tryz.f7) Tryz.func7 (c := Tryz.f7.body.getD .skip) (by kernel_rfl) (by kernel_rfl) fun x hx => by
  obtain ⟨N, h⟩ := e7 x.1 x.2.1 hx
  exact ⟨T7 N, p7, qi2 (qyn qFA qiS) qiQ, tb7 N, (q16 N x.1 x.2.1).trans h⟩
end Go.T
