/- Databases. -/
import Derived.Test.YtkjiecjpdbpghaaA3
import Derived.Test.YtkjiecjpdbpghaaA4
set_option linter.unusedSimpArgs false
set_option linter.unusedVariables false
namespace Go.T
open Go Go.Proofs
set_option maxHeartbeats 4000000
set_option maxRecDepth 100000
/-- All, each with its place. -/
def allI {α : Type} (p : Nat → α → Bool) : Nat → List α → Bool
  | _, [] => true
  | i, x :: r => p i x && allI p (i + 1) r
theorem foldK_allI {ρ α : Type} {p : Nat → α → Bool} {r : Option ρ} {k : Unit → Option ρ} : ∀ (xs : List α) (i : Nat), foldK (fun i x _ K => bif p i x then K () else r) i xs () k = bif allI p i xs then k () else r
  | [], _ => rfl
  | x :: xs, i => by
    rw [foldK]; dsimp only; rw [foldK_allI xs, allI]
    cases h : p i x <;> simp
theorem allI_congr {α : Type} {p q : Nat → α → Bool} : ∀ (xs : List α) (i : Nat), (∀ j (h : j < xs.length), p (i + j) xs[j] = q (i + j) xs[j]) → allI p i xs = allI q i xs
  | [], _, _ => rfl
  | x :: xs, i, h => by
    have h0 : p i x = q i x := h 0 (by simp)
    have hr := allI_congr xs (i + 1) fun j hj => by
      have := h (j + 1) (by simpa using hj)
      simpa [Nat.add_assoc, Nat.add_comm 1 j] using this
    rw [allI, allI, h0, hr]
/-- The first of that name. -/
def idxName (name : ByteArray) : List (Val Y53) → Nat → Int
  | [], _ => -1
  | x :: r, i => bif ByteArray.toList x.1 == ByteArray.toList name then (i : Int) else idxName name r (i + 1)
def findRel (xs : List (Val Y53)) (name : ByteArray) : Int := idxName name xs 0
def findRel_pre (xs : List (Val Y53)) (_ : ByteArray) : Prop := xs.length ≤ 1048576
theorem find_fold (name : ByteArray) : ∀ (xs : List (Val Y53)) (i : Nat), foldK (fun i x (_ : Unit) K => bif ByteArray.toList x.1 == ByteArray.toList name then some ((i : Int), ()) else K ()) i xs () (fun _ => some ((-1 : Int), ())) = some (idxName name xs i, ())
  | [], _ => rfl
  | x :: xs, i => by
    rw [foldK]; dsimp only; rw [find_fold name xs, idxName]
    cases ByteArray.toList x.1 == ByteArray.toList name <;> rfl
-- spec.FindRelation
noncomputable def m14_l2 (N : Nat) (v2 : List (Val Y53)) (v3 : ByteArray) (k0 : Unit → Option (Vals [i3])) : Nat → Int → Option (Vals [i3])
  | 0, _ => none
  | n + 1, v4 => bif (decide (v4 < (v2.length : Int))) then (chk (0 ≤ v4 ∧ v4 < (v2.length : Int)) (bif (ByteArray.toList ((v2.getD v4.toNat (dflt Y53)).1 : ByteArray) == ByteArray.toList v3) then (some (v4, ())) else (m14_l2 N v2 v3 k0 n (IntKind.i64.wrap (v4 + (1 : Int)))))) else (k0 ())
noncomputable def m14 (N : Nat) (v0 : List (Val Y53)) (v1 : ByteArray) : Option (Vals [i3]) := m14_l2 N v0 v1 (fun (_ : Unit) => some ((-1 : Int), ())) N (0 : Int)
def Γ14 : Gam := []
def nl14_2 : Nm := ⟨[true, true, false, false, false, true], []⟩
theorem nl14_2_fix : nl14_2.fix = [] := rfl
theorem nl14_2_keep : nl14_2.keep = [true, true, false, false, false, true] := rfl
def nx14_0 : Nm := ⟨[], []⟩
theorem nx14_0_fix : nx14_0.fix = [] := rfl
theorem nx14_0_keep : nx14_0.keep = [] := rfl
def tr14 : Nat → Tree := fun _ => .done
def lp14 : Nat → Nm := fun i => if i = 2 then nl14_2 else ⟨[], []⟩
def ex14 : Nat → Option Nm := fun i => if i = 0 then some nx14_0 else none
def rg14 : Nat → Option Nm := fun _ => none
theorem p14 : plansOk tr14 (Try.f14.body.getD .skip) = true := by kernel_rfl
def T14 (N : Nat) : Tab := ⟨tr14, lp14, ex14, rg14, N⟩
theorem T14_tr (N i : Nat) : (T14 N).tr i = tr14 i := rfl
theorem T14_lp (N i : Nat) : (T14 N).lp i = lp14 i := rfl
theorem T14_ex (N i : Nat) : (T14 N).ex i = ex14 i := rfl
theorem T14_rg (N i : Nat) : (T14 N).rg i = rg14 i := rfl
theorem T14_fuel (N : Nat) : (T14 N).fuel = N := rfl
noncomputable def c14_2 : Code := cut [true, false, true, true, true] (Try.f14.body.getD .skip)
theorem c14_2_at {N : Nat} {Q : X → St → Option (Vals [i3])} {e : List LV} {h : List Blk} : runT tt Γ14 (T14 N) c14_2 Q ⟨e, h⟩ = runT tt Γ14 (T14 N) (cut [true, false, true, true, true] (Try.f14.body.getD .skip)) Q ⟨e, h⟩ := rfl
theorem r14_l2 (N : Nat) (v2 : List (Val Y53)) (v3 : ByteArray) {k0 : Unit → Option (Vals [i3])} {Q : X → St → Option (Vals [i3])} {c : Code} (hc : c = c14_2) (hret : ∀ st, Q .ret st = retS tt true [i3] [.tmp 4] st) (h0 : Q (.exit 0) ⟨[u, u, u, u, u, u, u, u, u, u, u, u, u, u, u, u, u, u, u, u], []⟩ = k0 ()) : ∀ (n : Nat) (v4 : Int), loopR (runT tt Γ14 (T14 N) c) nl14_2 Q n ⟨[.one (.sl 53 Y53 v2 0), .one (.str v3), u, u, u, .one (.int .i64 v4), u, u, u, u, u, u, u, u, u, u, u, u, u, u], []⟩ = m14_l2 N v2 v3 k0 n v4 := by
  subst hc; intro n; induction n with
  | zero => intros; rfl
  | succ n ih =>
    intro v4
    rw [loop_succ, c14_2_at, m14_l2]; unfold Try.f14
    simp (maxSteps := 10000000) -implicitDefEqProofs [T14_tr, tr14, T14_lp, lp14, T14_ex, ex14, T14_rg, rg14, T14_fuel, nl14_2_fix, nl14_2_keep, nx14_0_fix, nx14_0_keep, hret, h0, ih]
theorem run14 (N : Nat) (v0 : List (Val Y53)) (v1 : ByteArray) : runT tt Γ14 (T14 N) (Try.f14.body.getD .skip) (retR tt true [i3] [.tmp 4]) (entryP [i25, i9] 20 (v0, v1, ())) = m14 N v0 v1 := by
  unfold Try.f14
  simp (maxSteps := 10000000) -implicitDefEqProofs [T14_tr, tr14, T14_lp, lp14, T14_ex, ex14, T14_rg, rg14, T14_fuel, nl14_2_fix, nl14_2_keep, nx14_0_fix, nx14_0_keep]
  rewrite [r14_l2 (k0 := (fun (_ : Unit) => some ((-1 : Int), ()))) N _ _ ?_ ?_ ?_]
  · rewrite [m14]; first | rfl | simp (maxSteps := 10000000) -implicitDefEqProofs []
  · rfl
  · intro; simp only [seqR_ret, blockR_ret, retR_ret]
  · simp (maxSteps := 10000000) -implicitDefEqProofs [T14_tr, tr14, T14_lp, lp14, T14_ex, ex14, T14_rg, rg14, T14_fuel, nl14_2_fix, nl14_2_keep, nx14_0_fix, nx14_0_keep]
-- impl.FindRelation
noncomputable def m16_l2 (N : Nat) (v2 : ByteArray) (v3 : List (Val Y53)) (v4 : Int) (k0 : Unit → Option (Vals [i3])) : Nat → Int → Option (Vals [i3])
  | 0, _ => none
  | n + 1, v5 => bif (decide (v5 < v4)) then (chk (0 ≤ v5 ∧ v5 < (v3.length : Int)) (bif (ByteArray.toList ((v3.getD v5.toNat (dflt Y53)).1 : ByteArray) == ByteArray.toList v2) then (some (v5, ())) else (m16_l2 N v2 v3 v4 k0 n (IntKind.i64.wrap (v5 + (1 : Int)))))) else (k0 ())
noncomputable def m16 (N : Nat) (v0 : List (Val Y53)) (v1 : ByteArray) : Option (Vals [i3]) := m16_l2 N v1 v0 (v0.length : Int) (fun (_ : Unit) => some ((-1 : Int), ())) N (0 : Int)
def Γ16 : Gam := []
def nl16_2 : Nm := ⟨[false, true, false, false, false, false, false, true, true, true], []⟩
theorem nl16_2_fix : nl16_2.fix = [] := rfl
theorem nl16_2_keep : nl16_2.keep = [false, true, false, false, false, false, false, true, true, true] := rfl
def nx16_0 : Nm := ⟨[], []⟩
theorem nx16_0_fix : nx16_0.fix = [] := rfl
theorem nx16_0_keep : nx16_0.keep = [] := rfl
def tr16 : Nat → Tree := fun _ => .done
def lp16 : Nat → Nm := fun i => if i = 2 then nl16_2 else ⟨[], []⟩
def ex16 : Nat → Option Nm := fun i => if i = 0 then some nx16_0 else none
def rg16 : Nat → Option Nm := fun _ => none
theorem p16 : plansOk tr16 (Try.f16.body.getD .skip) = true := by kernel_rfl
def T16 (N : Nat) : Tab := ⟨tr16, lp16, ex16, rg16, N⟩
theorem T16_tr (N i : Nat) : (T16 N).tr i = tr16 i := rfl
theorem T16_lp (N i : Nat) : (T16 N).lp i = lp16 i := rfl
theorem T16_ex (N i : Nat) : (T16 N).ex i = ex16 i := rfl
theorem T16_rg (N i : Nat) : (T16 N).rg i = rg16 i := rfl
theorem T16_fuel (N : Nat) : (T16 N).fuel = N := rfl
noncomputable def c16_2 : Code := cut [true, false, true, true, true] (Try.f16.body.getD .skip)
theorem c16_2_at {N : Nat} {Q : X → St → Option (Vals [i3])} {e : List LV} {h : List Blk} : runT tt Γ16 (T16 N) c16_2 Q ⟨e, h⟩ = runT tt Γ16 (T16 N) (cut [true, false, true, true, true] (Try.f16.body.getD .skip)) Q ⟨e, h⟩ := rfl
theorem r16_l2 (N : Nat) (v2 : ByteArray) (v3 : List (Val Y53)) (v4 : Int) {k0 : Unit → Option (Vals [i3])} {Q : X → St → Option (Vals [i3])} {c : Code} (hc : c = c16_2) (hret : ∀ st, Q .ret st = retS tt true [i3] [.tmp 4] st) (h0 : Q (.exit 0) ⟨[u, u, u, u, u, u, u, u, u, u, u, u, u, u, u, u, u, u, u, u], []⟩ = k0 ()) : ∀ (n : Nat) (v5 : Int), loopR (runT tt Γ16 (T16 N) c) nl16_2 Q n ⟨[u, .one (.str v2), u, u, u, u, u, .one (.sl 53 Y53 v3 0), .one (.int .i64 v4), .one (.int .i64 v5), u, u, u, u, u, u, u, u, u, u], []⟩ = m16_l2 N v2 v3 v4 k0 n v5 := by
  subst hc; intro n; induction n with
  | zero => intros; rfl
  | succ n ih =>
    intro v5
    rw [loop_succ, c16_2_at, m16_l2]; unfold Try.f16
    simp (maxSteps := 10000000) -implicitDefEqProofs [T16_tr, tr16, T16_lp, lp16, T16_ex, ex16, T16_rg, rg16, T16_fuel, nl16_2_fix, nl16_2_keep, nx16_0_fix, nx16_0_keep, hret, h0, ih]
theorem run16 (N : Nat) (v0 : List (Val Y53)) (v1 : ByteArray) : runT tt Γ16 (T16 N) (Try.f16.body.getD .skip) (retR tt true [i3] [.tmp 4]) (entryP [i25, i9] 20 (v0, v1, ())) = m16 N v0 v1 := by
  unfold Try.f16
  simp (maxSteps := 10000000) -implicitDefEqProofs [T16_tr, tr16, T16_lp, lp16, T16_ex, ex16, T16_rg, rg16, T16_fuel, nl16_2_fix, nl16_2_keep, nx16_0_fix, nx16_0_keep]
  rewrite [r16_l2 (k0 := (fun (_ : Unit) => some ((-1 : Int), ()))) N _ _ _ ?_ ?_ ?_]
  · rewrite [m16]; first | rfl | simp (maxSteps := 10000000) -implicitDefEqProofs []
  · rfl
  · intro; simp only [seqR_ret, blockR_ret, retR_ret]
  · simp (maxSteps := 10000000) -implicitDefEqProofs [T16_tr, tr16, T16_lp, lp16, T16_ex, ex16, T16_rg, rg16, T16_fuel, nl16_2_fix, nl16_2_keep, nx16_0_fix, nx16_0_keep]
def g14 : G := { ps := [i25, i9], rs := [i3], dp := true, pre := fun x => findRel_pre x.1 x.2.1, fn := fun x => (findRel x.1 x.2.1, ()) }
def g16 : G := { ps := [i25, i9], rs := [i3], dp := true, pre := fun x => findRel_pre x.1 x.2.1, fn := fun x => (findRel x.1 x.2.1, ()) }
theorem e14 (xs : List (Val Y53)) (nm : ByteArray) (h : findRel_pre xs nm) : ∃ N, m14 N xs nm = some (findRel xs nm, ()) := ⟨xs.length + 1, by
  rw [m14, findRel]
  refine (loop_fold (F := fun n i (_ : Unit) => m14_l2 _ xs nm _ n i) (step := fun i x (_ : Unit) K => bif ByteArray.toList x.1 == ByteArray.toList nm then some ((i : Int), ()) else K ()) (k := fun _ => some ((-1 : Int), ())) h (fun n i s hi => ?_) (fun n i s hi => ?_) _ () (Nat.lt_succ_self _)).trans (find_fold nm xs 0)
  · rw [m14_l2, bif_dec (by omega), chk_pos (by omega), getD_atI hi]
  · rw [m14_l2, bif_decN (by omega)]⟩
theorem e16 (xs : List (Val Y53)) (nm : ByteArray) (h : findRel_pre xs nm) : ∃ N, m16 N xs nm = some (findRel xs nm, ()) := ⟨xs.length + 1, by
  rw [m16, findRel]
  refine (loop_fold (F := fun n i (_ : Unit) => m16_l2 _ nm xs xs.length _ n i) (step := fun i x (_ : Unit) K => bif ByteArray.toList x.1 == ByteArray.toList nm then some ((i : Int), ()) else K ()) (k := fun _ => some ((-1 : Int), ())) h (fun n i s hi => ?_) (fun n i s hi => ?_) _ () (Nat.lt_succ_self _)).trans (find_fold nm xs 0)
  · rw [m16_l2, bif_dec (by omega), chk_pos (by omega), getD_atI hi]
  · rw [m16_l2, bif_decN (by omega)]⟩
theorem s14 : Sound Try.prog 14 g14 := sound_run (tt := tt) (Γ := Γ14) hT ok_nil hm (fn := Try.f14) Try.func14 (c := Try.f14.body.getD .skip) (by kernel_rfl) (by kernel_rfl) fun x hx => by
  obtain ⟨N, h⟩ := e14 x.1 x.2.1 hx
  exact ⟨T14 N, p14, (run14 N x.1 x.2.1).trans h⟩
theorem s16 : Sound Try.prog 16 g16 := sound_run (tt := tt) (Γ := Γ16) hT ok_nil hm (fn := Try.f16) Try.func16 (c := Try.f16.body.getD .skip) (by kernel_rfl) (by kernel_rfl) fun x hx => by
  obtain ⟨N, h⟩ := e16 x.1 x.2.1 hx
  exact ⟨T16 N, p16, (run16 N x.1 x.2.1).trans h⟩
theorem idx_at (nm : ByteArray) : ∀ (ps : List (Val Y53)) (b : Val Y53) (cs : List (Val Y53)) (k : Nat), ByteArray.toList b.1 = ByteArray.toList nm →
    (idxName nm ps k = -1 ∧ idxName nm (ps ++ b :: cs) k = ((k + ps.length : Nat) : Int)) ∨ (0 ≤ idxName nm ps k ∧ idxName nm (ps ++ b :: cs) k < ((k + ps.length : Nat) : Int))
  | [], b, cs, k, h => .inl ⟨rfl, by simp [idxName, h]⟩
  | a :: ps, b, cs, k, h => by
    rw [List.cons_append, idxName, idxName]
    cases ha : (ByteArray.toList a.1 == ByteArray.toList nm) with
    | true => right; simp only [cond_true, List.length_cons]; omega
    | false =>
      simp only [cond_false, List.length_cons]
      rcases idx_at nm ps b cs (k + 1) h with ⟨h1, h2⟩ | ⟨h1, h2⟩
      · left; exact ⟨h1, by rw [h2]; omega⟩
      · right; exact ⟨h1, by omega⟩
theorem idx_take (xs : List (Val Y53)) (i : Nat) (h : i < xs.length) : decide (0 ≤ idxName xs[i].1 (xs.take i) 0) = !decide (idxName xs[i].1 xs 0 = (i : Int)) := by
  have e : xs = xs.take i ++ xs[i] :: xs.drop (i + 1) := by rw [List.getElem_cons_drop, List.take_append_drop]
  have hl : (xs.take i).length = i := by simp; omega
  have := idx_at xs[i].1 (xs.take i) xs[i] (xs.drop (i + 1)) 0 rfl
  rw [← e, hl, Nat.zero_add] at this
  rcases this with ⟨h1, h2⟩ | ⟨h1, h2⟩
  · rw [h1, h2]; simp
  · have : ¬ (idxName xs[i].1 xs 0 = (i : Int)) := by omega
    simp [h1, this]
def isDb (xs : List (Val Y53)) : Bool := decide ((xs.length : Int) ≤ 6) && allI (fun i x => isRel x && decide (idxName x.1 xs 0 = (i : Int))) 0 xs
def isDb_pre (xs : List (Val Y53)) : Prop := Bd (.slice 53 Y53) xs
-- spec.IsDatabase
noncomputable def m33_l2 (N : Nat) (v1 : List (Val Y53)) (k0 : Unit → Option (Vals [i4])) : Nat → Int → Option (Vals [i4])
  | 0, _ => none
  | n + 1, v2 => bif (decide (v2 < (v1.length : Int))) then (chk (0 ≤ v2 ∧ v2 < (v1.length : Int)) (chk (isRel_pre (v1.getD v2.toNat (dflt Y53))) (bif (!((isRel (v1.getD v2.toNat (dflt Y53))) : Bool)) then (some (false, ())) else (chk (0 ≤ v2 ∧ v2 < (v1.length : Int)) (chk (0 ≤ (0 : Int) ∧ (0 : Int) ≤ v2 ∧ v2 ≤ (v1.length : Int)) (chk (findRel_pre ((v1.take v2.toNat).drop (0 : Int).toNat) ((v1.getD v2.toNat (dflt Y53)).1 : ByteArray)) (bif (decide ((0 : Int) ≤ ((findRel ((v1.take v2.toNat).drop (0 : Int).toNat) ((v1.getD v2.toNat (dflt Y53)).1 : ByteArray)) : Int))) then (some (false, ())) else (m33_l2 N v1 k0 n (IntKind.i64.wrap (v2 + (1 : Int))))))))))) else (k0 ())
noncomputable def m33 (N : Nat) (v0 : List (Val Y53)) : Option (Vals [i4]) := m33_l2 N v0 (fun (_ : Unit) => some ((decide ((v0.length : Int) ≤ (6 : Int))), ())) N (0 : Int)
def Γ33 : Gam := [(14, g14), (29, g29)]
theorem Γ33_14 : Gam.get Γ33 14 = some g14 := rfl
theorem Γ33_29 : Gam.get Γ33 29 = some g29 := rfl
def nl33_2 : Nm := ⟨[true, false, false, true], []⟩
theorem nl33_2_fix : nl33_2.fix = [] := rfl
theorem nl33_2_keep : nl33_2.keep = [true, false, false, true] := rfl
def nx33_0 : Nm := ⟨[true], []⟩
theorem nx33_0_fix : nx33_0.fix = [] := rfl
theorem nx33_0_keep : nx33_0.keep = [true] := rfl
def tr33 : Nat → Tree := fun i => if i = 4 then .quiet 0 (.quiet 1 (.quiet 2 (.quiet 3 (.alt 4 (.quiet 5 (.quiet 6 (.quiet 7 (.quiet 8 (.first 10 (.first 11 (.first 12 (.first 13 (.first 14 (.alt 9 (.alt 15 (.quiet 16 (.quiet 17 .done)) .stop) .stop)))))))))) .stop)))) else .done
def lp33 : Nat → Nm := fun i => if i = 2 then nl33_2 else ⟨[], []⟩
def ex33 : Nat → Option Nm := fun i => if i = 0 then some nx33_0 else none
def rg33 : Nat → Option Nm := fun _ => none
theorem p33 : plansOk tr33 (Try.f33.body.getD .skip) = true := by kernel_rfl
def T33 (N : Nat) : Tab := ⟨tr33, lp33, ex33, rg33, N⟩
theorem T33_tr (N i : Nat) : (T33 N).tr i = tr33 i := rfl
theorem T33_lp (N i : Nat) : (T33 N).lp i = lp33 i := rfl
theorem T33_ex (N i : Nat) : (T33 N).ex i = ex33 i := rfl
theorem T33_rg (N i : Nat) : (T33 N).rg i = rg33 i := rfl
theorem T33_fuel (N : Nat) : (T33 N).fuel = N := rfl
noncomputable def c33_2 : Code := cut [true, false, true, true, true] (Try.f33.body.getD .skip)
theorem c33_2_at {N : Nat} {Q : X → St → Option (Vals [i4])} {e : List LV} {h : List Blk} : runT tt Γ33 (T33 N) c33_2 Q ⟨e, h⟩ = runT tt Γ33 (T33 N) (cut [true, false, true, true, true] (Try.f33.body.getD .skip)) Q ⟨e, h⟩ := rfl
theorem r33_l2 (N : Nat) (v1 : List (Val Y53)) {k0 : Unit → Option (Vals [i4])} {Q : X → St → Option (Vals [i4])} {c : Code} (hc : c = c33_2) (hret : ∀ st, Q .ret st = retS tt true [i4] [.tmp 2] st) (h0 : Q (.exit 0) ⟨[.one (.sl 53 Y53 v1 0), u, u, u, u, u, u, u, u, u, u, u, u, u, u, u, u, u, u, u, u, u, u, u, u, u, u, u, u, u, u], []⟩ = k0 ()) : ∀ (n : Nat) (v2 : Int), loopR (runT tt Γ33 (T33 N) c) nl33_2 Q n ⟨[.one (.sl 53 Y53 v1 0), u, u, .one (.int .i64 v2), u, u, u, u, u, u, u, u, u, u, u, u, u, u, u, u, u, u, u, u, u, u, u, u, u, u, u], []⟩ = m33_l2 N v1 k0 n v2 := by
  subst hc; intro n; induction n with
  | zero => intros; rfl
  | succ n ih =>
    intro v2
    rw [loop_succ, c33_2_at, m33_l2]; unfold Try.f33
    simp (maxSteps := 10000000) -implicitDefEqProofs [T33_tr, tr33, T33_lp, lp33, T33_ex, ex33, T33_rg, rg33, T33_fuel, nl33_2_fix, nl33_2_keep, nx33_0_fix, nx33_0_keep, Γ33_14, Γ33_29, g14, g29, hret, h0, ih]
theorem run33 (N : Nat) (v0 : List (Val Y53)) : runT tt Γ33 (T33 N) (Try.f33.body.getD .skip) (retR tt true [i4] [.tmp 2]) (entryP [i25] 31 (v0, ())) = m33 N v0 := by
  unfold Try.f33
  simp (maxSteps := 10000000) -implicitDefEqProofs [T33_tr, tr33, T33_lp, lp33, T33_ex, ex33, T33_rg, rg33, T33_fuel, nl33_2_fix, nl33_2_keep, nx33_0_fix, nx33_0_keep, Γ33_14, Γ33_29, g14, g29]
  rewrite [r33_l2 (k0 := (fun (_ : Unit) => some ((decide ((v0.length : Int) ≤ (6 : Int))), ()))) N _ ?_ ?_ ?_]
  · rewrite [m33]; first | rfl | simp (maxSteps := 10000000) -implicitDefEqProofs []
  · rfl
  · intro; simp only [seqR_ret, blockR_ret, retR_ret]
  · simp (maxSteps := 10000000) -implicitDefEqProofs [T33_tr, tr33, T33_lp, lp33, T33_ex, ex33, T33_rg, rg33, T33_fuel, nl33_2_fix, nl33_2_keep, nx33_0_fix, nx33_0_keep, Γ33_14, Γ33_29, g14, g29]
-- impl.IsDatabase
noncomputable def m34_l4 (N : Nat) (v1 : List (Val Y53)) (v2 : List (Val Y53)) (v3 : Int) (k0 : Unit → Option (Vals [i4])) : Nat → Int → Option (Vals [i4])
  | 0, _ => none
  | n + 1, v4 => bif (decide (v4 < v3)) then (chk (0 ≤ v4 ∧ v4 < (v2.length : Int)) (bif (!((isRel (v2.getD v4.toNat (dflt Y53))) : Bool)) then (some (false, ())) else (chk (findRel_pre v1 ((v2.getD v4.toNat (dflt Y53)).1 : ByteArray)) (bif (!(decide (((findRel v1 ((v2.getD v4.toNat (dflt Y53)).1 : ByteArray)) : Int) = v4))) then (some (false, ())) else (m34_l4 N v1 v2 v3 k0 n (IntKind.i64.wrap (v4 + (1 : Int)))))))) else (k0 ())
noncomputable def m34 (N : Nat) (v0 : List (Val Y53)) : Option (Vals [i4]) := bif (decide ((6 : Int) < (v0.length : Int))) then (some (false, ())) else (m34_l4 N v0 v0 (v0.length : Int) (fun (_ : Unit) => some (true, ())) N (0 : Int))
def Γ34 : Gam := [(16, g16), (31, g31)]
theorem Γ34_16 : Gam.get Γ34 16 = some g16 := rfl
theorem Γ34_31 : Gam.get Γ34 31 = some g31 := rfl
def nl34_4 : Nm := ⟨[true, false, false, false, false, false, false, false, true, true, true], []⟩
theorem nl34_4_fix : nl34_4.fix = [] := rfl
theorem nl34_4_keep : nl34_4.keep = [true, false, false, false, false, false, false, false, true, true, true] := rfl
def nx34_0 : Nm := ⟨[], []⟩
theorem nx34_0_fix : nx34_0.fix = [] := rfl
theorem nx34_0_keep : nx34_0.keep = [] := rfl
def tr34 : Nat → Tree := fun _ => .done
def lp34 : Nat → Nm := fun i => if i = 4 then nl34_4 else ⟨[], []⟩
def ex34 : Nat → Option Nm := fun i => if i = 0 then some nx34_0 else none
def rg34 : Nat → Option Nm := fun _ => none
theorem p34 : plansOk tr34 (Try.f34.body.getD .skip) = true := by kernel_rfl
def T34 (N : Nat) : Tab := ⟨tr34, lp34, ex34, rg34, N⟩
theorem T34_tr (N i : Nat) : (T34 N).tr i = tr34 i := rfl
theorem T34_lp (N i : Nat) : (T34 N).lp i = lp34 i := rfl
theorem T34_ex (N i : Nat) : (T34 N).ex i = ex34 i := rfl
theorem T34_rg (N i : Nat) : (T34 N).rg i = rg34 i := rfl
theorem T34_fuel (N : Nat) : (T34 N).fuel = N := rfl
noncomputable def c34_4 : Code := cut [true, true, false, true, true, true] (Try.f34.body.getD .skip)
theorem c34_4_at {N : Nat} {Q : X → St → Option (Vals [i4])} {e : List LV} {h : List Blk} : runT tt Γ34 (T34 N) c34_4 Q ⟨e, h⟩ = runT tt Γ34 (T34 N) (cut [true, true, false, true, true, true] (Try.f34.body.getD .skip)) Q ⟨e, h⟩ := rfl
theorem r34_l4 (N : Nat) (v1 : List (Val Y53)) (v2 : List (Val Y53)) (v3 : Int) {k0 : Unit → Option (Vals [i4])} {Q : X → St → Option (Vals [i4])} {c : Code} (hc : c = c34_4) (hret : ∀ st, Q .ret st = retS tt true [i4] [.tmp 2] st) (h0 : Q (.exit 0) ⟨[u, u, u, u, u, u, u, u, u, u, u, u, u, u, u, u, u, u, u, u, u, u, u, u, u, u, u], []⟩ = k0 ()) : ∀ (n : Nat) (v4 : Int), loopR (runT tt Γ34 (T34 N) c) nl34_4 Q n ⟨[.one (.sl 53 Y53 v1 0), u, u, u, u, u, u, u, .one (.sl 53 Y53 v2 0), .one (.int .i64 v3), .one (.int .i64 v4), u, u, u, u, u, u, u, u, u, u, u, u, u, u, u, u], []⟩ = m34_l4 N v1 v2 v3 k0 n v4 := by
  subst hc; intro n; induction n with
  | zero => intros; rfl
  | succ n ih =>
    intro v4
    rw [loop_succ, c34_4_at, m34_l4]; unfold Try.f34
    simp (maxSteps := 10000000) -implicitDefEqProofs [T34_tr, tr34, T34_lp, lp34, T34_ex, ex34, T34_rg, rg34, T34_fuel, nl34_4_fix, nl34_4_keep, nx34_0_fix, nx34_0_keep, Γ34_16, Γ34_31, g16, g31, hret, h0, ih]
theorem run34 (N : Nat) (v0 : List (Val Y53)) : runT tt Γ34 (T34 N) (Try.f34.body.getD .skip) (retR tt true [i4] [.tmp 2]) (entryP [i25] 27 (v0, ())) = m34 N v0 := by
  unfold Try.f34
  simp (maxSteps := 10000000) -implicitDefEqProofs [T34_tr, tr34, T34_lp, lp34, T34_ex, ex34, T34_rg, rg34, T34_fuel, nl34_4_fix, nl34_4_keep, nx34_0_fix, nx34_0_keep, Γ34_16, Γ34_31, g16, g31]
  rewrite [r34_l4 (k0 := (fun (_ : Unit) => some (true, ()))) N _ _ _ ?_ ?_ ?_]
  · rewrite [m34]; first | rfl | simp (maxSteps := 10000000) -implicitDefEqProofs []
  · rfl
  · intro; simp only [seqR_ret, blockR_ret, retR_ret]
  · simp (maxSteps := 10000000) -implicitDefEqProofs [T34_tr, tr34, T34_lp, lp34, T34_ex, ex34, T34_rg, rg34, T34_fuel, nl34_4_fix, nl34_4_keep, nx34_0_fix, nx34_0_keep, Γ34_16, Γ34_31, g16, g31]
def g33 : G := { ps := [i25], rs := [i4], dp := true, pre := fun x => isDb_pre x.1, fn := fun x => (isDb x.1, ()) }
def g34 : G := { ps := [i25], rs := [i4], dp := true, pre := fun _ => True, fn := fun x => (isDb x.1, ()) }
theorem e33 (xs : List (Val Y53)) (h : isDb_pre xs) : ∃ N, m33 N xs = some (isDb xs, ()) := ⟨xs.length + 1, by
  rw [m33, isDb]
  refine (loop_fold (F := fun n i (_ : Unit) => m33_l2 _ xs _ n i) (step := fun i x (_ : Unit) K => bif (isRel x && decide (idxName x.1 xs 0 = (i : Int))) then K () else some (false, ())) (k := fun _ => some (decide ((xs.length : Int) ≤ 6), ())) h.1 (fun n i s hi => ?_) (fun n i s hi => ?_) _ () (Nat.lt_succ_self _)).trans ?_
  · rw [m33_l2, bif_dec (by omega), chk_pos (by omega), getD_atI hi, chk_pos (show isRel_pre _ from h.2 _ (List.getElem_mem hi)), chk_pos (by omega), chk_pos (by omega), chk_pos (show findRel_pre _ _ from by have := h.1; simp [findRel_pre]; omega)]
    simp only [findRel, Int.toNat_natCast, Int.toNat_zero, List.drop_zero]
    rw [idx_take xs i hi]
    cases isRel xs[i] <;> simp [bif_not]
  · rw [m33_l2, bif_decN (by omega)]
  · rw [foldK_allI]
    cases allI _ 0 xs <;> simp⟩
theorem e34 (xs : List (Val Y53)) : ∃ N, m34 N xs = some (isDb xs, ()) := ⟨xs.length + 1, by
  rw [m34, isDb]
  by_cases h6 : (6 : Int) < xs.length
  · rw [bif_dec h6]; simp only [show ¬ ((xs.length : Int) ≤ 6) by omega, decide_false, Bool.false_and]
  · rw [bif_decN h6]; simp only [show ((xs.length : Int) ≤ 6) by omega, decide_true, Bool.true_and]
    refine (loop_fold (F := fun n i (_ : Unit) => m34_l4 _ xs xs xs.length _ n i) (step := fun i x (_ : Unit) K => bif (isRel x && decide (idxName x.1 xs 0 = (i : Int))) then K () else some (false, ())) (k := fun _ => some (true, ())) (by omega) (fun n i s hi => ?_) (fun n i s hi => ?_) _ () (Nat.lt_succ_self _)).trans ?_
    · rw [m34_l4, bif_dec (by omega), chk_pos (by omega), getD_atI hi, chk_pos (show findRel_pre _ _ from by simp [findRel_pre]; omega)]
      simp only [findRel]
      cases isRel xs[i] <;> simp [bif_not] <;> rfl
    · rw [m34_l4, bif_decN (by omega)]
    · rw [foldK_allI]
      exact bif_some⟩
theorem s33 : Sound Try.prog 33 g33 := sound_run (tt := tt) (Γ := Γ33) hT (ok_cons s14 (ok_cons s29 ok_nil)) hm (fn := Try.f33) Try.func33 (c := Try.f33.body.getD .skip) (by kernel_rfl) (by kernel_rfl) fun x hx => by
  obtain ⟨N, h⟩ := e33 x.1 hx
  exact ⟨T33 N, p33, (run33 N x.1).trans h⟩
theorem s34 : Sound Try.prog 34 g34 := sound_run (tt := tt) (Γ := Γ34) hT (ok_cons s16 (ok_cons s31 ok_nil)) hm (fn := Try.f34) Try.func34 (c := Try.f34.body.getD .skip) (by kernel_rfl) (by kernel_rfl) fun x hx => by
  obtain ⟨N, h⟩ := e34 x.1
  exact ⟨T34 N, p34, (run34 N x.1).trans h⟩
-- laws.FnExactIsDatabase
noncomputable def m6 (N : Nat) (v0 : List (Val Y48)) : Option (Vals [i4]) := chk (sz_RelationS_pre v0 (1048576 : Int)) (bif (decide (((sz_RelationS v0 (1048576 : Int)) : Int) < (0 : Int))) then (some (true, ())) else (chk (to_RelationS_pre v0) (chk (isDb_pre ((to_RelationS v0) : List (Val Y53))) (chk (to_RelationS_pre v0) (bif (!(((isDb ((to_RelationS v0) : List (Val Y53))) : Bool) == ((isDb ((to_RelationS v0) : List (Val Y53))) : Bool))) then (some (false, ())) else (chk (to_RelationS_pre v0) (chk (eq_RelationS_pre ((to_RelationS v0) : List (Val Y53)) ((to_RelationS v0) : List (Val Y53))) (bif (!((eq_RelationS ((to_RelationS v0) : List (Val Y53)) ((to_RelationS v0) : List (Val Y53))) : Bool)) then (some (false, ())) else (some (true, ()))))))))))
def Γ6 : Gam := [(13, g13), (15, g15), (17, g17), (33, g33), (34, g34)]
theorem Γ6_13 : Gam.get Γ6 13 = some g13 := rfl
theorem Γ6_15 : Gam.get Γ6 15 = some g15 := rfl
theorem Γ6_17 : Gam.get Γ6 17 = some g17 := rfl
theorem Γ6_33 : Gam.get Γ6 33 = some g33 := rfl
theorem Γ6_34 : Gam.get Γ6 34 = some g34 := rfl
def tr6 : Nat → Tree := fun _ => .done
def lp6 : Nat → Nm := fun _ => ⟨[], []⟩
def ex6 : Nat → Option Nm := fun _ => none
def rg6 : Nat → Option Nm := fun _ => none
theorem p6 : plansOk tr6 (Try.f6.body.getD .skip) = true := by kernel_rfl
def T6 (N : Nat) : Tab := ⟨tr6, lp6, ex6, rg6, N⟩
theorem T6_tr (N i : Nat) : (T6 N).tr i = tr6 i := rfl
theorem T6_lp (N i : Nat) : (T6 N).lp i = lp6 i := rfl
theorem T6_ex (N i : Nat) : (T6 N).ex i = ex6 i := rfl
theorem T6_rg (N i : Nat) : (T6 N).rg i = rg6 i := rfl
theorem T6_fuel (N : Nat) : (T6 N).fuel = N := rfl
theorem run6 (N : Nat) (v0 : List (Val Y48)) : runT tt Γ6 (T6 N) (Try.f6.body.getD .skip) (retR tt true [i4] [.tmp 2]) (entryP [i22] 27 (v0, ())) = m6 N v0 := by
  rw [m6]; unfold Try.f6
  simp (maxSteps := 10000000) -implicitDefEqProofs [T6_tr, tr6, T6_lp, lp6, T6_ex, ex6, T6_rg, rg6, T6_fuel, Γ6_13, Γ6_15, Γ6_17, Γ6_33, Γ6_34, g13, g15, g17, g33, g34]
def law6 (_ : List (Val Y48)) : Bool := true
def law6_pre (x0 : List (Val Y48)) : Prop := Sms [i22] (x0, ())
def g6 : G := { ps := [i22], rs := [i4], dp := true, pre := fun x => law6_pre x.1, fn := fun x => (law6 x.1, ()) }
theorem e6 (x : List (Val Y48)) (h : law6_pre x) : ∃ N, m6 N x = some (law6 x, ()) := ⟨0, by
  rw [m6, chk_pos (show sz_RelationS_pre x 1048576 from ⟨h.1, by omega, by omega⟩)]
  by_cases c : sz_RelationS x 1048576 < 0
  · rw [bif_dec c]; rfl
  · have hb : Bd (.slice 48 Y48) x := szV_Bd (.slice 48 Y48) x 1048576 (by omega) (by omega) (by have : ¬ szV (.slice 48 Y48) x 1048576 < 0 := c; omega)
    rw [bif_decN c, chk_pos (show to_RelationS_pre x from hb), chk_pos (show isDb_pre (to_RelationS x) from hb), chk_pos (show to_RelationS_pre x from hb)]
    rw [bif_not, bif_true (show (isDb (to_RelationS x) == isDb (to_RelationS x)) = true from beq_self_eq_true _), chk_pos (show to_RelationS_pre x from hb), chk_pos (show eq_RelationS_pre (to_RelationS x) (to_RelationS x) from hb), bif_not, bif_true (show eq_RelationS (to_RelationS x) (to_RelationS x) = true from eqV_refl _ _)]
    rfl⟩
theorem s6 : Sound Try.prog 6 g6 := sound_run (tt := tt) (Γ := Γ6) hT (ok_cons s13 (ok_cons s15 (ok_cons s17 (ok_cons s33 (ok_cons s34 ok_nil))))) hm (fn := Try.f6) Try.func6 (c := Try.f6.body.getD .skip) (by kernel_rfl) (by kernel_rfl) fun x hx => by
  obtain ⟨N, h⟩ := e6 x.1 hx
  exact ⟨T6 N, p6, (run6 N x.1).trans h⟩
end Go.T
