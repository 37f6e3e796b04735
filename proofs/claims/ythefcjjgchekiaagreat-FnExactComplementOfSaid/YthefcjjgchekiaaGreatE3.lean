/- The library's Concat at names of atoms. -/
import Derived.Test.YthefcjjgchekiaaGreatE2
set_option linter.unusedSimpArgs false
set_option linter.unusedVariables false
namespace Go.T
open Go Go.Proofs
set_option maxHeartbeats 4000000
set_option maxRecDepth 100000
theorem zca : (Own1.gr 108 (hd qa)).Ok Tryz.prog 284 :=
  qT7 Tryz.growL rfl ⟨_, Tryz.func284, by kernel_rfl, by kernel_rfl⟩ hTH (ti := qGd) rfl
def qkX (xss : List (List (Val (hd qa)))) : List (Val (hd qa)) := xss.flatten
def qx6 (xss : List (List (Val (hd qa)))) : Prop := xss.length ≤ 1048576 ∧ (qkX xss).length ≤ 1048576
def qgG : G := { ps := [qxd], rs := [qbg], dp := true, pre := fun x => qx6 x.1, fn := fun x => (qkX x.1, ()) }
noncomputable def qgL (N : Nat) (v1 : List (Val (.slice 108 (hd qa)))) (v3 : List (Val (.slice 108 (hd qa)))) (v4 : Int) (k0 : Int → Option (qb [qbg])) : Nat → Int → Int → Option (qb [qbg])
  | 0, _, _ => none
  | n + 1, v2, v5 => bif (decide (v5 < v4)) then (chk (0 ≤ v5 ∧ v5 < (v3.length : Int)) (bif (decide ((IntKind.i64.wrap (v2 + (((v3.getD v5.toNat (qc (.slice 108 (hd qa)))) : List (Val (hd qa))).length : Int))) < (0 : Int))) then (none) else (qgL N v1 v3 v4 k0 n (IntKind.i64.wrap (v2 + (((v3.getD v5.toNat (qc (.slice 108 (hd qa)))) : List (Val (hd qa))).length : Int))) (IntKind.i64.wrap (v5 + (1 : Int)))))) else (k0 v2)
noncomputable def qfj (N : Nat) (v8 : List (Val (.slice 108 (hd qa)))) (v9 : Int) (k2 : (List (Val (hd qa))) → Option (qb [qbg])) : Nat → Int → (List (Val (hd qa))) → Option (qb [qbg])
  | 0, _, _ => none
  | n + 1, v10, v11 => bif (decide (v10 < v9)) then (chk (0 ≤ v10 ∧ v10 < (v8.length : Int)) (chk (v11.length + ((v8.getD v10.toNat (qc (.slice 108 (hd qa)))) : List (Val (hd qa))).length ≤ 1048576) (qfj N v8 v9 k2 n (IntKind.i64.wrap (v10 + (1 : Int))) (v11 ++ ((v8.getD v10.toNat (qc (.slice 108 (hd qa)))) : List (Val (hd qa))))))) else (k2 v11)
noncomputable def qv3 (N : Nat) (v0 : List (Val (.slice 108 (hd qa)))) : Option (qb [qbg]) := qgL N v0 v0 (v0.length : Int) (fun (v7 : Int) => chk (0 ≤ v7 ∧ v7 ≤ 1048576) (qfj N v0 (v0.length : Int) (fun (v13 : List (Val (hd qa))) => some (v13, ())) N (0 : Int) ([] : List (Val (hd qa))))) N (0 : Int) (0 : Int)
def qfT : Gam := []
def qsG : Nm := ⟨[true, false, false, true, false, false, false, false, false, true, true, true], [], false⟩
theorem qqm : qsG.zero = false := rfl
theorem qoK : qsG.fix = [] := rfl
theorem qpn : qsG.keep = [true, false, false, true, false, false, false, false, false, true, true, true] := rfl
def qnT : Nm := ⟨[false, false, false, false, false, false, true, false, false, false, false, false, false, false, false, false, false, false, false, false, false, false, false, false, false, true, true, true], [], false⟩
theorem qoR : qnT.zero = false := rfl
theorem qsl : qnT.fix = [] := rfl
theorem qm1 : qnT.keep = [false, false, false, false, false, false, true, false, false, false, false, false, false, false, false, false, false, false, false, false, false, false, false, false, false, true, true, true] := rfl
def qwP : Nm := ⟨[true, false, false, true], [], false⟩
theorem qob : qwP.zero = false := rfl
theorem qrO : qwP.fix = [] := rfl
theorem qqJ : qwP.keep = [true, false, false, true] := rfl
def qtU : Nm := ⟨[false, false, false, false, false, false, true], [], false⟩
theorem qow : qtU.zero = false := rfl
theorem qmb : qtU.fix = [] := rfl
theorem qpm : qtU.keep = [false, false, false, false, false, false, true] := rfl
def qfI : Nat → Tree := fun _ => .done
def qhH : Nat → Nm := fun i => if i = 3 then qsG else if i = 11 then qnT else ⟨[], [], false⟩
noncomputable def qiF : Sem := qj7 [(284, .gr 108 (hd qa))]
def qiv : Nat → Option Jn := fun _ => none
def qhC : Nat → Option Nm := fun i => if i = 0 then some qwP else if i = 2 then some qtU else none
def qi0 : Nat → Option Nm := fun _ => none
theorem qV0 : qj qfI (Tryz.f219.body.getD .skip) = true := by kernel_rfl
noncomputable def qby (N : Nat) : Tab := { tr := qfI, lp := qhH, ex := qhC, rg := qi0, jn := qiv, fuel := N, sem := qiF }
theorem qqH (N : Nat) : (qby N).pins = false := rfl
theorem zdc (N : Nat) : qk Tryz.prog (qby N) := qp fun _ => rfl
theorem qrF (N : Nat) : (qby N).sem = qiF := rfl
theorem qtg (N : Nat) (i : Nat) : (qby N).tr i = qfI i := rfl
theorem qs5 (N : Nat) (i : Nat) : (qby N).lp i = qhH i := rfl
theorem qpQ (N : Nat) (i : Nat) : (qby N).ex i = qhC i := rfl
theorem qnA (N : Nat) (i : Nat) : (qby N).rg i = qi0 i := rfl
theorem qtI (N : Nat) (i : Nat) : (qby N).jn i = qiv i := rfl
theorem qpT (N : Nat) : (qby N).fuel = N := rfl
noncomputable def qUQ : Code := cut [true, true, false, true, true, true] (Tryz.f219.body.getD .skip)
theorem q5x {N : Nat} {Q : X → St → Option (qb [qbg])} {e : List LV} {h : List Blk} : qf ttH qfT (qby N) qUQ Q ⟨e, h⟩ = qf ttH qfT (qby N) (cut [true, true, false, true, true, true] (Tryz.f219.body.getD .skip)) Q ⟨e, h⟩ := rfl
theorem q4D (N : Nat) (v1 : List (Val (.slice 108 (hd qa)))) (v3 : List (Val (.slice 108 (hd qa)))) (v4 : Int) {k0 : Int → Option (qb [qbg])} {Q : X → St → Option (qb [qbg])} {c : Code} (hc : c = qUQ) (hret : ∀ st, Q .ret st = qE ttH true [qbg] [.tmp 2] st) (h0 : ∀ (v6 : Int), Q (.exit 0) ⟨[.one (.sl 31 (.slice 108 (hd qa)) v1 0), u, u, .one (.int .i64 v6), u, u, u, u, u, u, u, u, u, u, u, u, u, u, u, u, u, u, u, u, u, u, u, u, u, u, u, u, u, u, u, u], []⟩ = k0 v6) : ∀ (n : Nat) (v2 : Int) (v5 : Int), qF (qf ttH qfT (qby N) c) false qsG Q n ⟨[.one (.sl 31 (.slice 108 (hd qa)) v1 0), u, u, .one (.int .i64 v2), u, u, u, u, u, .one (.sl 31 (.slice 108 (hd qa)) v3 0), .one (.int .i64 v4), .one (.int .i64 v5), u, u, u, u, u, u, u, u, u, u, u, u, u, u, u, u, u, u, u, u, u, u, u, u], []⟩ = qgL N v1 v3 v4 k0 n v2 v5 := by
  subst hc; intro n; induction n with
  | zero => intros; rfl
  | succ n ih =>
    intro v2 v5
    rw [qM, q5x, qgL]; unfold Tryz.f219
    simp (maxSteps := 10000000) -implicitDefEqProofs [qtg, qfI, qs5, qhH, qpQ, qhC, qnA, qi0, qtI, qiv, qpT, qqH, qrF, qiF, q9, qoK, qpn, qqm, qsl, qm1, qoR, qrO, qqJ, qob, qmb, qpm, qow, hret, h0, ih]
noncomputable def qSg : Code := cut [true, true, true, true, false, true, true, true] (Tryz.f219.body.getD .skip)
theorem q1J {N : Nat} {Q : X → St → Option (qb [qbg])} {e : List LV} {h : List Blk} : qf ttH qfT (qby N) qSg Q ⟨e, h⟩ = qf ttH qfT (qby N) (cut [true, true, true, true, false, true, true, true] (Tryz.f219.body.getD .skip)) Q ⟨e, h⟩ := rfl
theorem q2o (N : Nat) (v8 : List (Val (.slice 108 (hd qa)))) (v9 : Int) {k2 : (List (Val (hd qa))) → Option (qb [qbg])} {Q : X → St → Option (qb [qbg])} {c : Code} (hc : c = qSg) (hret : ∀ st, Q .ret st = qE ttH true [qbg] [.tmp 2] st) (h2 : ∀ (v12 : List (Val (hd qa))), Q (.exit 2) ⟨[u, u, u, u, u, u, .one (.own 0), u, u, u, u, u, u, u, u, u, u, u, u, u, u, u, u, u, u, u, u, u, u, u, u, u, u, u, u, u], [.row 108 (hd qa) v12 true true 0]⟩ = k2 v12) : ∀ (n : Nat) (v10 : Int) (v11 : List (Val (hd qa))), qF (qf ttH qfT (qby N) c) false qnT Q n ⟨[u, u, u, u, u, u, .one (.own 0), u, u, u, u, u, u, u, u, u, u, u, u, u, u, u, u, u, u, .one (.sl 31 (.slice 108 (hd qa)) v8 1), .one (.int .i64 v9), .one (.int .i64 v10), u, u, u, u, u, u, u, u], [.row 108 (hd qa) v11 true true 0]⟩ = qfj N v8 v9 k2 n v10 v11 := by
  subst hc; intro n; induction n with
  | zero => intros; rfl
  | succ n ih =>
    intro v10 v11
    rw [qM, q1J, qfj]; unfold Tryz.f219
    simp (maxSteps := 10000000) -implicitDefEqProofs [qtg, qfI, qs5, qhH, qpQ, qhC, qnA, qi0, qtI, qiv, qpT, qqH, qrF, qiF, q9, qoK, qpn, qqm, qsl, qm1, qoR, qrO, qqJ, qob, qmb, qpm, qow, hret, h2, ih]
theorem qWC (N : Nat) (v0 : List (Val (.slice 108 (hd qa)))) : qf ttH qfT (qby N) (Tryz.f219.body.getD .skip) (qm ttH true [qbg] [.tmp 2]) (qq [qxd] 36 (v0, ())) = qv3 N v0 := by
  unfold Tryz.f219
  simp (maxSteps := 10000000) -implicitDefEqProofs [qtg, qfI, qs5, qhH, qpQ, qhC, qnA, qi0, qtI, qiv, qpT, qqH, qrF, qiF, q9, qoK, qpn, qqm, qsl, qm1, qoR, qrO, qqJ, qob, qmb, qpm, qow]
  rewrite [q4D (k0 := (fun (v7 : Int) => chk (0 ≤ v7 ∧ v7 ≤ 1048576) (qfj N v0 (v0.length : Int) (fun (v13 : List (Val (hd qa))) => some (v13, ())) N (0 : Int) ([] : List (Val (hd qa)))))) N _ _ _ ?_ ?_ ?_]
  · rewrite [qv3]; first | rfl | simp (maxSteps := 10000000) -implicitDefEqProofs []
  · rfl
  · intro; simp only [qK, qJ, qL, qC]
  · intro v7; simp (maxSteps := 10000000) -implicitDefEqProofs [qtg, qfI, qs5, qhH, qpQ, qhC, qnA, qi0, qtI, qiv, qpT, qqH, qrF, qiF, q9, qoK, qpn, qqm, qsl, qm1, qoR, qrO, qqJ, qob, qmb, qpm, qow]
    rewrite [q2o (k2 := (fun (v13 : List (Val (hd qa))) => some (v13, ()))) N _ _ ?_ ?_ ?_]
    · first | rfl | simp (maxSteps := 10000000) -implicitDefEqProofs []
    · rfl
    · intro; simp only [qK, qJ, qL, qC]
    · intro v13; simp (maxSteps := 10000000) -implicitDefEqProofs [qtg, qfI, qs5, qhH, qpQ, qhC, qnA, qi0, qtI, qiv, qpT, qqH, qrF, qiF, q9, qoK, qpn, qqm, qsl, qm1, qoR, qrO, qqJ, qob, qmb, qpm, qow]
theorem zdH (N : Nat) (xss : List (List (Val (hd qa)))) (K : Int → Option (qb [qbg])) (hl : xss.length ≤ 1048576) (n : Nat) (hn : xss.length < n) (s : Int) : qgL N xss xss xss.length K n s 0 = qS (fun _ (x : List (Val (hd qa))) (s : Int) K => bif decide (IntKind.i64.wrap (s + (x.length : Int)) < 0) then none else K (IntKind.i64.wrap (s + (x.length : Int)))) 0 xss s K :=
  qax (xs := xss) (F := fun n i s => qgL N xss xss xss.length K n s i) hl (fun n i s hi => by rw [qgL, qn (by omega), qe (by omega), qG hi]) (fun n i s hi => by rw [qgL, ql (by omega)]) n s hn
theorem q6C (N : Nat) (xss : List (List (Val (hd qa)))) (K : List (Val (hd qa)) → Option (qb [qbg])) (hl : xss.length ≤ 1048576) (n : Nat) (hn : xss.length < n) (s : List (Val (hd qa))) : qfj N xss xss.length K n 0 s = qS (fun _ (x : List (Val (hd qa))) (s : List (Val (hd qa))) K => chk (s.length + x.length ≤ 1048576) (K (s ++ x))) 0 xss s K :=
  qax (xs := xss) (F := fun n i s => qfj N xss xss.length K n i s) hl (fun n i s hi => by rw [qfj, qn (by omega), qe (by omega), qG hi]) (fun n i s hi => by rw [qfj, ql (by omega)]) n s hn
theorem q6m (xss : List (List (Val (hd qa)))) (h : qx6 xss) : ∃ N, qv3 N xss = some (qkX xss, ()) := ⟨xss.length + 1, by
  obtain ⟨hl, ht⟩ := h
  have ht' : xss.flatten.length ≤ 1048576 := ht
  rw [qv3, zdH _ _ _ hl _ (Nat.lt_succ_self _)]
  refine (qFm xss 0 0 (by simpa using ht')).trans ?_
  rw [qe (by omega), q6C _ _ _ hl _ (Nat.lt_succ_self _)]
  exact (qFi xss 0 [] (by simpa using ht')).trans rfl⟩
theorem q6I : Sound Tryz.prog 219 qgG := qt (tt := ttH) (Γ := qfT) hTH qo hm (fn := Tryz.f219) Tryz.func219 (c := Tryz.f219.body.getD .skip) (by kernel_rfl) (by kernel_rfl) fun x hx => by
  obtain ⟨N, h⟩ := q6m x.1 hx
  exact ⟨qby N, qV0, qBm (qOX zca qGY), zdc N, (qWC N x.1).trans h⟩
end Go.T
