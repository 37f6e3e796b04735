/- Marks of regions. -/
import Derived.Test.YthefcjjgchekiaaGreatF1
set_option linter.unusedSimpArgs false
set_option linter.unusedVariables false
namespace Go.T
open Go Go.Proofs
set_option maxHeartbeats 4000000
set_option maxRecDepth 100000
def qk7 (x : List (Val (.int .i64))) (k : Int) : List (Val (.int .i64)) := (mkT (.slice 3 (.int .i64)) x k).1
def qfb (x : List (Val (.int .i64))) (k : Int) : Int := (mkT (.slice 3 (.int .i64)) x k).2
def qv0 (x : List (Val (.int .i64))) (k : Int) : Prop := Bd (.slice 3 (.int .i64)) x ∧ k ≤ 9223372036854775807
def qmy : Gms := ⟨3, (.int .i64), qv0, qk7, qfb⟩
noncomputable def qjf (N : Nat)  (k0 : Int → (List (Val (.int .i64))) → Option ((List (Val (.int .i64))) × Int)) : Nat → Int → Int → (List (Val (.int .i64))) → Option ((List (Val (.int .i64))) × Int)
  | 0, _, _, _ => none
  | n + 1, v2, v3, v4 => bif (decide (v3 < (v4.length : Int))) then (chk (0 ≤ v3 ∧ v3 < (v4.length : Int)) (chk (v3.toNat < v4.length) (qjf N  k0 n (IntKind.i64.wrap (v2 + (1 : Int))) (IntKind.i64.wrap (v3 + (1 : Int))) (v4.set v3.toNat v2)))) else (k0 v2 v4)
noncomputable def quc (N : Nat) (v0 : List (Val (.int .i64))) (v1 : Int) : Option ((List (Val (.int .i64))) × Int) := qjf N  (fun (v7 : Int) (v8 : List (Val (.int .i64))) => some (v8, v7)) N v1 (0 : Int) v0
def qmk : Gam := []
def qsA : Nm := ⟨[true, true, false, false, false, true], [], false⟩
theorem qMw : qsA.zero = false := rfl
theorem qFy : qsA.fix = [] := rfl
theorem qHt : qsA.keep = [true, true, false, false, false, true] := rfl
def qvg : Nm := ⟨[false, true], [], false⟩
theorem qHZ : qvg.zero = false := rfl
theorem qAy : qvg.fix = [] := rfl
theorem qDm : qvg.keep = [false, true] := rfl
def qmv : Sem := qep [] []
def qlh : Nat → Tree := fun _ => .done
def qmo : Nat → Nm := fun i => if i = 2 then qsA else ⟨[], [], false⟩
def qmO : Nat → Option Jn := fun _ => none
def qrh : Nat → Option Nm := fun i => if i = 0 then some qvg else none
def qnL : Nat → Option Nm := fun _ => none
theorem q3S : qj qlh (Tryz.f100.body.getD .skip) = true := by kernel_rfl
def qb5 (N : Nat) : Tab := { tr := qlh, lp := qmo, ex := qrh, rg := qnL, jn := qmO, fuel := N, pins := true, sem := qmv }
theorem qJ4 (N : Nat) : (qb5 N).pins = true := rfl
theorem qZQ (N : Nat) : qk Tryz.prog (qb5 N) := qp fun _ => rfl
theorem qDI (N : Nat) : (qb5 N).sem = qmv := rfl
theorem qJ7 (N : Nat) (i : Nat) : (qb5 N).tr i = qlh i := rfl
theorem qPR (N : Nat) (i : Nat) : (qb5 N).lp i = qmo i := rfl
theorem qGu (N : Nat) (i : Nat) : (qb5 N).ex i = qrh i := rfl
theorem qNB (N : Nat) (i : Nat) : (qb5 N).rg i = qnL i := rfl
theorem qD3 (N : Nat) (i : Nat) : (qb5 N).jn i = qmO i := rfl
theorem qBU (N : Nat) : (qb5 N).fuel = N := rfl
noncomputable def qUV : Code := cut [true, false, true, true, true] (Tryz.f100.body.getD .skip)
theorem zcU {N : Nat} {Q : X → St → Option ((List (Val (.int .i64))) × Int)} {e : List LV} {h : List Blk} : qf tt qmk (qb5 N) qUV Q ⟨e, h⟩ = qf tt qmk (qb5 N) (cut [true, false, true, true, true] (Tryz.f100.body.getD .skip)) Q ⟨e, h⟩ := rfl
theorem zaB (N : Nat)  {k0 : Int → (List (Val (.int .i64))) → Option ((List (Val (.int .i64))) × Int)} {Q : X → St → Option ((List (Val (.int .i64))) × Int)} {c : Code} (hc : c = qUV) (hret : ∀ st, Q .ret st = qgO tt (.slice 3 (.int .i64)) [.own 0] [.tmp 4] st) (h0 : ∀ (v5 : Int) (v6 : List (Val (.int .i64))), Q (.exit 0) ⟨[u, .one (.int .i64 v5), u, u, u, u, u, u, u, u, u, u, u, u, u, u, u, u, u], [.row 3 (.int .i64) v6 true true 0]⟩ = k0 v5 v6) : ∀ (n : Nat) (v2 : Int) (v3 : Int) (v4 : List (Val (.int .i64))), qF (qf tt qmk (qb5 N) c) true qsA Q n ⟨[.one (.own 0), .one (.int .i64 v2), u, u, u, .one (.int .i64 v3), u, u, u, u, u, u, u, u, u, u, u, u, u], [.row 3 (.int .i64) v4 true true 0]⟩ = qjf N  k0 n v2 v3 v4 := by
  subst hc; intro n; induction n with
  | zero => intros; rfl
  | succ n ih =>
    intro v2 v3 v4
    rw [qM, zcU, qjf]; unfold Tryz.f100
    simp (maxSteps := 10000000) -implicitDefEqProofs [qJ7, qlh, qPR, qmo, qGu, qrh, qNB, qnL, qD3, qmO, qBU, qJ4, qDI, qmv, q9, qC, qbG, qFy, qHt, qMw, qAy, qDm, qHZ, hret, h0, ih]
theorem q5T (N : Nat) (v0 : List (Val (.int .i64))) (v1 : Int) : qf tt qmk (qb5 N) (Tryz.f100.body.getD .skip) (qcl (qgO tt (.slice 3 (.int .i64)) (qN 0 (.slice 3 (.int .i64)) v0).1 [.tmp 4])) (qbG i25 19 v0 v1) = quc N v0 v1 := by
  unfold Tryz.f100
  simp (maxSteps := 10000000) -implicitDefEqProofs [qJ7, qlh, qPR, qmo, qGu, qrh, qNB, qnL, qD3, qmO, qBU, qJ4, qDI, qmv, q9, qC, qbG, qFy, qHt, qMw, qAy, qDm, qHZ]
  rewrite [zaB (k0 := (fun (v7 : Int) (v8 : List (Val (.int .i64))) => some (v8, v7))) N  ?_ ?_ ?_]
  · rewrite [quc]; first | rfl | simp (maxSteps := 10000000) -implicitDefEqProofs []
  · rfl
  · intro; simp only [qK, qJ, qL, qC]
  · intro v7 v8; simp (maxSteps := 10000000) -implicitDefEqProofs [qJ7, qlh, qPR, qmo, qGu, qrh, qNB, qnL, qD3, qmO, qBU, qJ4, qDI, qmv, q9, qC, qbG, qFy, qHt, qMw, qAy, qDm, qHZ]
theorem zev (x : List (Val (.int .i64))) (k : Int) (h : qv0 x k) : ∃ N, quc N x k = some (qk7 x k, qfb x k) := ⟨x.length + 1, by
  rw [quc]
  refine zdh (f := mkE (.int .i64)) (F := fun n i k s => qjf _ _ n k i s) (kf := fun k s => some (s, k)) x h.1.1 (qtM _) (fun n i k s hi _ hl => ?_) (fun n i k s hl hi => ?_) _ k h.2 (Nat.lt_succ_self _)
  · rw [qjf, qn (by omega), qe (by omega), qe (by omega)]
    rfl
  · rw [qjf, ql (by omega)]⟩
theorem zai : SoundMs Tryz.prog 100 qmy := qWv (tt := tt) (Γ := qmk) hT qo hm (fn := Tryz.f100) Tryz.func100 (c := Tryz.f100.body.getD .skip) (by kernel_rfl) (by kernel_rfl) rfl fun x n hx => by
  obtain ⟨N, h⟩ := zev x n hx
  exact ⟨qb5 N, rfl, q3S, ⟨qi2 qiS qiQ, qZQ N⟩, (q5T N x n).trans h⟩
def qhO (x : List (Val qa)) (k : Int) : List (Val qa) := (mkT (.slice 108 qa) x k).1
def qGN (x : List (Val qa)) (k : Int) : Int := (mkT (.slice 108 qa) x k).2
def qt2 (x : List (Val qa)) (k : Int) : Prop := Bd (.slice 108 qa) x ∧ k ≤ 9223372036854775807
def qmP : Gms := ⟨108, qa, qt2, qhO, qGN⟩
noncomputable def qhN (N : Nat) (v6 : List (Val (hd qa))) (k0 : Int → (List (Val qae)) → (List (Val qa)) → Option (List (Val qae) × List (Val qa) × Int)) : Nat → Int → Int → (List (Val qae)) → (List (Val qa)) → Option (List (Val qae) × List (Val qa) × Int)
  | 0, _, _, _, _ => none
  | n + 1, v3, v4, v5, v7 => bif (decide (v4 < (v5.length : Int))) then (chk (0 ≤ v4 ∧ v4 < (v5.length : Int)) (chk (v4.toNat < v5.length) (chk (v4.toNat < v7.length ∧ v4.toNat < v6.length ∧ ((v6.getD v4.toNat (qc (hd qa)) : Val qae).1 : Value) = ((v5.getD v4.toNat (qc qae)).1 : Value) ∧ qv0 ((v7.getD v4.toNat (qc qa)).1 : List (Val (.int .i64))) v3) (chk (0 ≤ v4 ∧ v4 < (v5.length : Int)) (chk (v4.toNat < v5.length) (chk ((3 : Int) ≠ 0) (chk (0 ≤ v4 ∧ v4 < ((v5.set v4.toNat (((v5.getD v4.toNat (qc qae)).1 : Value), ((qfb ((v7.getD v4.toNat (qc qa)).1 : List (Val (.int .i64))) v3), (((v5.getD v4.toNat (qc qae)).2).2 : Bool)))).length : Int)) (chk (v4.toNat < (v5.set v4.toNat (((v5.getD v4.toNat (qc qae)).1 : Value), ((qfb ((v7.getD v4.toNat (qc qa)).1 : List (Val (.int .i64))) v3), (((v5.getD v4.toNat (qc qae)).2).2 : Bool)))).length) (qhN N v6 k0 n (IntKind.i64.wrap ((IntKind.i64.wrap ((qfb ((v7.getD v4.toNat (qc qa)).1 : List (Val (.int .i64))) v3) + (1 : Int))) + (1 : Int))) (IntKind.i64.wrap (v4 + (1 : Int))) ((v5.set v4.toNat (((v5.getD v4.toNat (qc qae)).1 : Value), ((qfb ((v7.getD v4.toNat (qc qa)).1 : List (Val (.int .i64))) v3), (((v5.getD v4.toNat (qc qae)).2).2 : Bool)))).set v4.toNat ((((v5.set v4.toNat (((v5.getD v4.toNat (qc qae)).1 : Value), ((qfb ((v7.getD v4.toNat (qc qa)).1 : List (Val (.int .i64))) v3), (((v5.getD v4.toNat (qc qae)).2).2 : Bool)))).getD v4.toNat (qc qae)).1 : Value), (((((v5.set v4.toNat (((v5.getD v4.toNat (qc qae)).1 : Value), ((qfb ((v7.getD v4.toNat (qc qa)).1 : List (Val (.int .i64))) v3), (((v5.getD v4.toNat (qc qae)).2).2 : Bool)))).getD v4.toNat (qc qae)).2).1 : Int), (decide (((IntKind.i64.wrap ((qfb ((v7.getD v4.toNat (qc qa)).1 : List (Val (.int .i64))) v3) + (1 : Int))).tmod (3 : Int)) = (0 : Int)))))) (v7.set v4.toNat ((qk7 ((v7.getD v4.toNat (qc qa)).1 : List (Val (.int .i64))) v3), (v7.getD v4.toNat (qc qa)).2))))))))))) else (k0 v3 v5 v7)
noncomputable def qyC (N : Nat) (v0 : List (Val (hd qa))) (v1 : List (Val qa)) (v2 : Int) : Option (List (Val qae) × List (Val qa) × Int) := qhN N v0 (fun (v11 : Int) (v12 : List (Val qae)) (v13 : List (Val qa)) => some (v12, v13, v11)) N v2 (0 : Int) v0 v1
def qlS : Gam := []
theorem qHw : Gam.get qlS 100 = none := rfl
def qou : Nm := ⟨[true, true, false, false, false, true], [], false⟩
theorem qEu : qou.zero = false := rfl
theorem qNe : qou.fix = [] := rfl
theorem qIw : qou.keep = [true, true, false, false, false, true] := rfl
def qzq : Nm := ⟨[false, true], [], false⟩
theorem qOV : qzq.zero = false := rfl
theorem qQd : qzq.fix = [] := rfl
theorem qFz : qzq.keep = [false, true] := rfl
def qoy : Sem := qep [] [(18, 100, qmy, 0, 13)]
def qj2 : Nat → Tree := fun _ => .done
def qnk : Nat → Nm := fun i => if i = 2 then qou else ⟨[], [], false⟩
def qtv : Nat → Option Jn := fun _ => none
def qra : Nat → Option Nm := fun i => if i = 0 then some qzq else none
def qqe : Nat → Option Nm := fun _ => none
theorem zeG : qj qj2 (Tryz.f191.body.getD .skip) = true := by kernel_rfl
def qb0 (N : Nat) : Tab := { tr := qj2, lp := qnk, ex := qra, rg := qqe, jn := qtv, fuel := N, pins := true, sem := qoy }
theorem qCu (N : Nat) : (qb0 N).pins = true := rfl
theorem qWu (N : Nat) : qk Tryz.prog (qb0 N) := qp fun _ => rfl
theorem qKE (N : Nat) : (qb0 N).sem = qoy := rfl
theorem qIK (N : Nat) (i : Nat) : (qb0 N).tr i = qj2 i := rfl
theorem qJm (N : Nat) (i : Nat) : (qb0 N).lp i = qnk i := rfl
theorem qJH (N : Nat) (i : Nat) : (qb0 N).ex i = qra i := rfl
theorem qMl (N : Nat) (i : Nat) : (qb0 N).rg i = qqe i := rfl
theorem qNm (N : Nat) (i : Nat) : (qb0 N).jn i = qtv i := rfl
theorem qPG (N : Nat) : (qb0 N).fuel = N := rfl
noncomputable def qS6 : Code := cut [true, false, true, true, true] (Tryz.f191.body.getD .skip)
theorem q2G {N : Nat} {Q : X → St → Option (List (Val qae) × List (Val qa) × Int)} {e : List LV} {h : List Blk} : qf tt qlS (qb0 N) qS6 Q ⟨e, h⟩ = qf tt qlS (qb0 N) (cut [true, false, true, true, true] (Tryz.f191.body.getD .skip)) Q ⟨e, h⟩ := rfl
theorem zdP (N : Nat) (F : List Nat) (v6 : List (Val (hd qa))) {k0 : Int → (List (Val qae)) → (List (Val qa)) → Option (List (Val qae) × List (Val qa) × Int)} {Q : X → St → Option (List (Val qae) × List (Val qa) × Int)} {c : Code} (hc : c = qS6) (hret : ∀ st, Q .ret st = qgf tt 108 qa qae F v6 [.tmp 4] st) (h0 : ∀ (v8 : Int) (v9 : List (Val qae)) (v10 : List (Val qa)), Q (.exit 0) ⟨[u, .one (.int .i64 v8), u, u, u, u, u, u, u, u, u, u, u, u, u, u, u, u, u, u, u, u, u, u, u, u, u, u, u, u, u, u, u, u, u, u], [.row 108 qae v9 true true 0, .nst F qa v6 v10]⟩ = k0 v8 v9 v10) : ∀ (n : Nat) (v3 : Int) (v4 : Int) (v5 : List (Val qae)) (v7 : List (Val qa)), qF (qf tt qlS (qb0 N) c) true qou Q n ⟨[.one (.own 0), .one (.int .i64 v3), u, u, u, .one (.int .i64 v4), u, u, u, u, u, u, u, u, u, u, u, u, u, u, u, u, u, u, u, u, u, u, u, u, u, u, u, u, u, u], [.row 108 qae v5 true true 0, .nst F qa v6 v7]⟩ = qhN N v6 k0 n v3 v4 v5 v7 := by
  subst hc; intro n; induction n with
  | zero => intros; rfl
  | succ n ih =>
    intro v3 v4 v5 v7
    rw [qM, q2G, qhN]; unfold Tryz.f191
    simp (maxSteps := 10000000) -implicitDefEqProofs [qIK, qj2, qJm, qnk, qJH, qra, qMl, qqe, qNm, qtv, qPG, qCu, qKE, qoy, q9, qHw, qmy, qC, qbG, qNe, qIw, qEu, qQd, qFz, qOV, hret, h0, ih]
theorem qZp (N : Nat) (F : List Nat) (v0 : List (Val (hd qa))) (v1 : List (Val qa)) (v2 : Int) : qf tt qlS (qb0 N) (Tryz.f191.body.getD .skip) (qcl (qgf tt 108 qa qae F v0 [.tmp 4])) ⟨[.one (.own 0), .one (.int .i64 v2), .tup [], .tup [], .tup [], .tup [], .tup [], .tup [], .tup [], .tup [], .tup [], .tup [], .tup [], .tup [], .tup [], .tup [], .tup [], .tup [], .tup [], .tup [], .tup [], .tup [], .tup [], .tup [], .tup [], .tup [], .tup [], .tup [], .tup [], .tup [], .tup [], .tup [], .tup [], .tup [], .tup [], .tup []], [.row 108 qae v0 true true 0, .nst F qa v0 v1]⟩ = qyC N v0 v1 v2 := by
  unfold Tryz.f191
  simp (maxSteps := 10000000) -implicitDefEqProofs [qIK, qj2, qJm, qnk, qJH, qra, qMl, qqe, qNm, qtv, qPG, qCu, qKE, qoy, q9, qHw, qmy, qC, qbG, qNe, qIw, qEu, qQd, qFz, qOV]
  rewrite [zdP (k0 := (fun (v11 : Int) (v12 : List (Val qae)) (v13 : List (Val qa)) => some (v12, v13, v11))) N _ _ ?_ ?_ ?_]
  · rewrite [qyC]; first | rfl | simp (maxSteps := 10000000) -implicitDefEqProofs []
  · rfl
  · intro; simp only [qK, qJ, qL, qC]
  · intro v11 v12 v13; simp (maxSteps := 10000000) -implicitDefEqProofs [qIK, qj2, qJm, qnk, qJH, qra, qMl, qqe, qNm, qtv, qPG, qCu, qKE, qoy, q9, qHw, qmy, qC, qbG, qNe, qIw, qEu, qQd, qFz, qOV]
theorem q5Y (hs : List (Val (hd qa))) (xs : List (Val qa)) (k : Int) (h : qt2 xs k) (hl : xs.length = hs.length) (hmx : qP qa xs hs = hs) :
    ∃ N vs, vs.map (qai qa) = (qhO xs k).map (qai qa) ∧ qyC N hs xs k = some (qP qa (qhO xs k) hs, vs, qGN xs k) := by
  refine ⟨xs.length + 1, ?_⟩
  rw [qyC]
  refine qSl (t := qa) (F := fun n i k ys vs => qhN _ hs _ n k i ys vs) (kf := fun k ys vs => some (ys, vs, k)) xs hl hmx (by rw [← hl]; exact h.1.1) (fun n i k fs vs hi hh hv hk l1 l2 hsl ⟨hx, hfx⟩ => ?_) (fun n i k ys vs hl hi => ?_) _ k h.2 (Nat.lt_succ_self _)
  · have hy : (qP qa fs hs).length = hs.length := qsV l1
    have e1 : vs[i].1 = fs[i].1 := (Prod.mk.inj hsl).1
    refine ⟨(qk7 vs[i].1 k, vs[i].2), ?_, ?_⟩
    · show ((qk7 vs[i].1 k, (0, false)) : Val qa) = (qk7 fs[i].1 k, (0, false))
      rw [e1]
    · have hb : qv0 vs[i].1 k := ⟨by rw [e1, hfx]; exact (h.1.2 _ (List.getElem_mem hx)).1, hk⟩
      rw [qhN, qn (by omega), qe (by omega), qe (by omega), qT8 hi hh l1, qG hv, qG hh, qe ⟨by omega, by omega, rfl, hb⟩, qe (by omega), qe (by omega), qe (by decide), qe (by rw [List.length_set]; omega), qe (by rw [List.length_set]; omega), List.set_set, qRY (by omega), Int.toNat_natCast]
      rw [← qUp hh l1]
      simp only [e1]
      rfl
  · rw [qhN, ql (by omega)]
theorem zed : SoundMs Tryz.prog 191 qmP := qUY (tt := tt) (Γ := qlS) hT qo hm (fn := Tryz.f191) Tryz.func191 (c := Tryz.f191.body.getD .skip) (by kernel_rfl) (by kernel_rfl) fun xs hs n F hx hl hmx => by
  obtain ⟨N, vs, h1, h2⟩ := q5Y hs xs n hx hl hmx
  exact ⟨qb0 N, vs, rfl, zeG, ⟨qi2 qiS (qRA zai qiQ), qWu N⟩, h1, (qZp N F hs xs n).trans h2⟩
def qjx (x : List (Val (.int .i64))) (k : Int) : Int := (mkT (.slice 3 (.int .i64)) x k).2
def qxc (x : List (Val (.int .i64))) (k : Int) : Prop := qv8 (.slice 3 (.int .i64)) x k
noncomputable def qhl (N : Nat) (v2 : List (Val (.int .i64))) (k0 : Int → Option (qb [i3])) : Nat → Int → Int → Option (qb [i3])
  | 0, _, _ => none
  | n + 1, v3, v4 => bif (decide (v4 < (v2.length : Int))) then (chk (0 ≤ v4 ∧ v4 < (v2.length : Int)) (bif (!(decide (((v2.getD v4.toNat (qc (.int .i64))) : Int) = v3))) then (some ((-1 : Int), ())) else (qhl N v2 k0 n (IntKind.i64.wrap (v3 + (1 : Int))) (IntKind.i64.wrap (v4 + (1 : Int)))))) else (k0 v3)
noncomputable def qzs (N : Nat) (v0 : List (Val (.int .i64))) (v1 : Int) : Option (qb [i3]) := qhl N v0 (fun (v6 : Int) => some (v6, ())) N v1 (0 : Int)
def qtE : Gam := []
def qpg : Nm := ⟨[true, true, false, false, false, true], [], false⟩
theorem qM9 : qpg.zero = false := rfl
theorem qQj : qpg.fix = [] := rfl
theorem qBq : qpg.keep = [true, true, false, false, false, true] := rfl
def qzA : Nm := ⟨[false, true], [], false⟩
theorem qCD : qzA.zero = false := rfl
theorem qDi : qzA.fix = [] := rfl
theorem qOP : qzA.keep = [false, true] := rfl
def qlD : Nat → Tree := fun _ => .done
def qmD : Nat → Nm := fun i => if i = 2 then qpg else ⟨[], [], false⟩
def qnI : Nat → Option Jn := fun _ => none
def qnt : Nat → Option Nm := fun i => if i = 0 then some qzA else none
def qn3 : Nat → Option Nm := fun _ => none
theorem zej : qj qlD (Tryz.f192.body.getD .skip) = true := by kernel_rfl
def qcT (N : Nat) : Tab := { tr := qlD, lp := qmD, ex := qnt, rg := qn3, jn := qnI, fuel := N }
theorem qCp (N : Nat) : (qcT N).pins = false := rfl
theorem qZI (N : Nat) : qk Tryz.prog (qcT N) := qp fun _ => rfl
theorem qP5 (N : Nat) (i : Nat) : (qcT N).tr i = qlD i := rfl
theorem qGR (N : Nat) (i : Nat) : (qcT N).lp i = qmD i := rfl
theorem qFN (N : Nat) (i : Nat) : (qcT N).ex i = qnt i := rfl
theorem qJj (N : Nat) (i : Nat) : (qcT N).rg i = qn3 i := rfl
theorem qBO (N : Nat) (i : Nat) : (qcT N).jn i = qnI i := rfl
theorem qEX (N : Nat) : (qcT N).fuel = N := rfl
noncomputable def qRN : Code := cut [true, false, true, true, true] (Tryz.f192.body.getD .skip)
theorem q74 {N : Nat} {Q : X → St → Option (qb [i3])} {e : List LV} {h : List Blk} : qf tt qtE (qcT N) qRN Q ⟨e, h⟩ = qf tt qtE (qcT N) (cut [true, false, true, true, true] (Tryz.f192.body.getD .skip)) Q ⟨e, h⟩ := rfl
theorem zav (N : Nat) (v2 : List (Val (.int .i64))) {k0 : Int → Option (qb [i3])} {Q : X → St → Option (qb [i3])} {c : Code} (hc : c = qRN) (hret : ∀ st, Q .ret st = qE tt true [i3] [.tmp 4] st) (h0 : ∀ (v5 : Int), Q (.exit 0) ⟨[u, .one (.int .i64 v5), u, u, u, u, u, u, u, u, u, u, u, u, u, u, u, u, u, u, u], []⟩ = k0 v5) : ∀ (n : Nat) (v3 : Int) (v4 : Int), qF (qf tt qtE (qcT N) c) false qpg Q n ⟨[.one (.sl 3 (.int .i64) v2 0), .one (.int .i64 v3), u, u, u, .one (.int .i64 v4), u, u, u, u, u, u, u, u, u, u, u, u, u, u, u], []⟩ = qhl N v2 k0 n v3 v4 := by
  subst hc; intro n; induction n with
  | zero => intros; rfl
  | succ n ih =>
    intro v3 v4
    rw [qM, q74, qhl]; unfold Tryz.f192
    simp (maxSteps := 10000000) -implicitDefEqProofs [qP5, qlD, qGR, qmD, qFN, qnt, qJj, qn3, qBO, qnI, qEX, qCp, qQj, qBq, qM9, qDi, qOP, qCD, hret, h0, ih]
theorem q6f (N : Nat) (v0 : List (Val (.int .i64))) (v1 : Int) : qf tt qtE (qcT N) (Tryz.f192.body.getD .skip) (qm tt true [i3] [.tmp 4]) (qq [i25, i3] 21 (v0, v1, ())) = qzs N v0 v1 := by
  unfold Tryz.f192
  simp (maxSteps := 10000000) -implicitDefEqProofs [qP5, qlD, qGR, qmD, qFN, qnt, qJj, qn3, qBO, qnI, qEX, qCp, qQj, qBq, qM9, qDi, qOP, qCD]
  rewrite [zav (k0 := (fun (v6 : Int) => some (v6, ()))) N _ ?_ ?_ ?_]
  · rewrite [qzs]; first | rfl | simp (maxSteps := 10000000) -implicitDefEqProofs []
  · rfl
  · intro; simp only [qK, qJ, qL, qC]
  · intro v6; simp (maxSteps := 10000000) -implicitDefEqProofs [qP5, qlD, qGR, qmD, qFN, qnt, qJj, qn3, qBO, qnI, qEX, qCp, qQj, qBq, qM9, qDi, qOP, qCD]
def qlq : G := { ps := [i25, i3], rs := [i3], dp := true, pre := fun x => qxc x.1 x.2.1, fn := fun x => (qjx x.1 x.2.1, ()) }
theorem q41 (x : List (Val (.int .i64))) (k : Int) (h : qxc x k) : ∃ N, qzs N x k = some (qjx x k, ()) := ⟨x.length + 1, by
  obtain ⟨hm, hb, h0, hc⟩ := h
  rw [qzs]
  refine qPE (t := .int .i64) (F := fun n i k => qhl _ x _ n k i) (kf := fun k => some (k, ())) x hb.1 (fun n i k hi hx h0 hb => ?_) (fun n i k hi => ?_) _ k (Nat.lt_succ_self _) hm h0 hc
  · have hx : k = x[i] := hx
    rw [qhl, qn (by omega), qe (by omega), qG hi, qaP, qn hx.symm]
    rfl
  · rw [qhl, ql (by omega)]⟩
theorem qVJ : Sound Tryz.prog 192 qlq := qt (tt := tt) (Γ := qtE) hT qo hm (fn := Tryz.f192) Tryz.func192 (c := Tryz.f192.body.getD .skip) (by kernel_rfl) (by kernel_rfl) fun x hx => by
  obtain ⟨N, h⟩ := q41 x.1 x.2.1 hx
  exact ⟨qcT N, zej, qw _, qZI N, (q6f N x.1 x.2.1).trans h⟩
def qmt (x : List (Val qa)) (k : Int) : Int := (mkT (.slice 108 qa) x k).2
def quI (x : List (Val qa)) (k : Int) : Prop := qv8 (.slice 108 qa) x k
noncomputable def qiL (N : Nat) (v2 : List (Val qa)) (k0 : Int → Option (qb [i3])) : Nat → Int → Int → Option (qb [i3])
  | 0, _, _ => none
  | n + 1, v3, v4 => bif (decide (v4 < (v2.length : Int))) then (chk (0 ≤ v4 ∧ v4 < (v2.length : Int)) (chk (qxc ((v2.getD v4.toNat (qc qa)).1 : List (Val (.int .i64))) v3) (bif (decide (((qjx ((v2.getD v4.toNat (qc qa)).1 : List (Val (.int .i64))) v3) : Int) < (0 : Int))) then (some ((-1 : Int), ())) else (chk (0 ≤ v4 ∧ v4 < (v2.length : Int)) (bif (!(decide ((((v2.getD v4.toNat (qc qa)).2).1 : Int) = ((qjx ((v2.getD v4.toNat (qc qa)).1 : List (Val (.int .i64))) v3) : Int)))) then (some ((-1 : Int), ())) else (chk (0 ≤ v4 ∧ v4 < (v2.length : Int)) (chk ((3 : Int) ≠ 0) (bif (!((((v2.getD v4.toNat (qc qa)).2).2 : Bool) == (decide (((IntKind.i64.wrap (((qjx ((v2.getD v4.toNat (qc qa)).1 : List (Val (.int .i64))) v3) : Int) + (1 : Int))).tmod (3 : Int)) = (0 : Int))))) then (some ((-1 : Int), ())) else (qiL N v2 k0 n (IntKind.i64.wrap ((IntKind.i64.wrap (((qjx ((v2.getD v4.toNat (qc qa)).1 : List (Val (.int .i64))) v3) : Int) + (1 : Int))) + (1 : Int))) (IntKind.i64.wrap (v4 + (1 : Int)))))))))))) else (k0 v3)
noncomputable def qvh (N : Nat) (v0 : List (Val qa)) (v1 : Int) : Option (qb [i3]) := qiL N v0 (fun (v6 : Int) => some (v6, ())) N v1 (0 : Int)
def qlk : Gam := [(192, qlq)]
theorem qKs : Gam.get qlk 192 = some qlq := rfl
def qsP : Nm := ⟨[true, true, false, false, false, true], [], false⟩
theorem qQm : qsP.zero = false := rfl
theorem qJy : qsP.fix = [] := rfl
theorem qDJ : qsP.keep = [true, true, false, false, false, true] := rfl
def qvm : Nm := ⟨[false, true], [], false⟩
theorem qDe : qvm.zero = false := rfl
theorem qPu : qvm.fix = [] := rfl
theorem qNo : qvm.keep = [false, true] := rfl
def qkg : Nat → Tree := fun _ => .done
def qmq : Nat → Nm := fun i => if i = 2 then qsP else ⟨[], [], false⟩
def qqx : Nat → Option Jn := fun _ => none
def qs1 : Nat → Option Nm := fun i => if i = 0 then some qvm else none
def qnu : Nat → Option Nm := fun _ => none
theorem zc2 : qj qkg (Tryz.f216.body.getD .skip) = true := by kernel_rfl
def qcK (N : Nat) : Tab := { tr := qkg, lp := qmq, ex := qs1, rg := qnu, jn := qqx, fuel := N }
theorem qNM (N : Nat) : (qcK N).pins = false := rfl
theorem qYf (N : Nat) : qk Tryz.prog (qcK N) := qp fun _ => rfl
theorem qNv (N : Nat) (i : Nat) : (qcK N).tr i = qkg i := rfl
theorem qAq (N : Nat) (i : Nat) : (qcK N).lp i = qmq i := rfl
theorem qLu (N : Nat) (i : Nat) : (qcK N).ex i = qs1 i := rfl
theorem qNC (N : Nat) (i : Nat) : (qcK N).rg i = qnu i := rfl
theorem qGT (N : Nat) (i : Nat) : (qcK N).jn i = qqx i := rfl
theorem qAJ (N : Nat) : (qcK N).fuel = N := rfl
noncomputable def qUU : Code := cut [true, false, true, true, true] (Tryz.f216.body.getD .skip)
theorem zeP {N : Nat} {Q : X → St → Option (qb [i3])} {e : List LV} {h : List Blk} : qf tt qlk (qcK N) qUU Q ⟨e, h⟩ = qf tt qlk (qcK N) (cut [true, false, true, true, true] (Tryz.f216.body.getD .skip)) Q ⟨e, h⟩ := rfl
theorem zcJ (N : Nat) (v2 : List (Val qa)) {k0 : Int → Option (qb [i3])} {Q : X → St → Option (qb [i3])} {c : Code} (hc : c = qUU) (hret : ∀ st, Q .ret st = qE tt true [i3] [.tmp 4] st) (h0 : ∀ (v5 : Int), Q (.exit 0) ⟨[u, .one (.int .i64 v5), u, u, u, u, u, u, u, u, u, u, u, u, u, u, u, u, u, u, u, u, u, u, u, u, u, u, u, u, u, u, u, u, u, u, u, u, u, u, u, u], []⟩ = k0 v5) : ∀ (n : Nat) (v3 : Int) (v4 : Int), qF (qf tt qlk (qcK N) c) false qsP Q n ⟨[.one (.sl 108 qa v2 0), .one (.int .i64 v3), u, u, u, .one (.int .i64 v4), u, u, u, u, u, u, u, u, u, u, u, u, u, u, u, u, u, u, u, u, u, u, u, u, u, u, u, u, u, u, u, u, u, u, u, u], []⟩ = qiL N v2 k0 n v3 v4 := by
  subst hc; intro n; induction n with
  | zero => intros; rfl
  | succ n ih =>
    intro v3 v4
    rw [qM, zeP, qiL]; unfold Tryz.f216
    simp (maxSteps := 10000000) -implicitDefEqProofs [qNv, qkg, qAq, qmq, qLu, qs1, qNC, qnu, qGT, qqx, qAJ, qNM, qJy, qDJ, qQm, qPu, qNo, qDe, qKs, qlq, hret, h0, ih]
theorem qY2 (N : Nat) (v0 : List (Val qa)) (v1 : Int) : qf tt qlk (qcK N) (Tryz.f216.body.getD .skip) (qm tt true [i3] [.tmp 4]) (qq [i31, i3] 42 (v0, v1, ())) = qvh N v0 v1 := by
  unfold Tryz.f216
  simp (maxSteps := 10000000) -implicitDefEqProofs [qNv, qkg, qAq, qmq, qLu, qs1, qNC, qnu, qGT, qqx, qAJ, qNM, qJy, qDJ, qQm, qPu, qNo, qDe, qKs, qlq]
  rewrite [zcJ (k0 := (fun (v6 : Int) => some (v6, ()))) N _ ?_ ?_ ?_]
  · rewrite [qvh]; first | rfl | simp (maxSteps := 10000000) -implicitDefEqProofs []
  · rfl
  · intro; simp only [qK, qJ, qL, qC]
  · intro v6; simp (maxSteps := 10000000) -implicitDefEqProofs [qNv, qkg, qAq, qmq, qLu, qs1, qNC, qnu, qGT, qqx, qAJ, qNM, qJy, qDJ, qQm, qPu, qNo, qDe, qKs, qlq]
def qjV : G := { ps := [i31, i3], rs := [i3], dp := true, pre := fun x => quI x.1 x.2.1, fn := fun x => (qmt x.1 x.2.1, ()) }
theorem q9s (x : List (Val qa)) (k : Int) (h : quI x k) : ∃ N, qvh N x k = some (qmt x k, ()) := ⟨x.length + 1, by
  obtain ⟨hm, hb, h0, hc⟩ := h
  rw [qvh]
  refine qPE (t := qa) (F := fun n i k => qiL _ x _ n k i) (kf := fun k => some (k, ())) x hb.1 (fun n i k hi hx h0 hc => ?_) (fun n i k hi => ?_) _ k (Nat.lt_succ_self _) hm h0 hc
  · have hb := hb.2 _ (List.getElem_mem hi)
    obtain ⟨e1, e2, e3⟩ : (mkE (.slice 3 (.int .i64)) x[i].1 k).1 = x[i].1 ∧ (mkE (.slice 3 (.int .i64)) x[i].1 k).2 = x[i].2.1 ∧ decide (Int.tmod (IntKind.i64.wrap ((mkE (.slice 3 (.int .i64)) x[i].1 k).2 + 1)) 3 = 0) = x[i].2.2 := by
      have := Prod.mk.inj hx
      have h2 := Prod.mk.inj this.2
      exact ⟨this.1, h2.1, h2.2⟩
    have hcc : k + (qX (.slice 3 (.int .i64)) x[i].1 : Nat) + 2 ≤ 4611686018427387904 := by
      have : qX qa x[i] = qX (.slice 3 (.int .i64)) x[i].1 + (1 + 1) := rfl
      omega
    have hk := qh5 (.slice 3 (.int .i64)) x[i].1 k h0 (by omega)
    have hp : qxc x[i].1 k := ⟨e1, hb.1, h0, by have : qQ (.slice 3 (.int .i64)) x[i].1 = qX (.slice 3 (.int .i64)) x[i].1 := rfl; omega⟩
    have ev : qjx x[i].1 k = (mkE (.slice 3 (.int .i64)) x[i].1 k).2 := rfl
    rw [qiL, qn (by omega), qe (by omega), qG hi, qe hp, ql (by omega), qe (by omega), qaP, qn (by rw [ev]; exact e2.symm), qe (by omega), qe (by decide), qaP, q9Z (by rw [ev, e3]; exact beq_self_eq_true _)]
    rfl
  · rw [qiL, ql (by omega)]⟩
theorem zeM : Sound Tryz.prog 216 qjV := qt (tt := tt) (Γ := qlk) hT (qg qVJ qo) hm (fn := Tryz.f216) Tryz.func216 (c := Tryz.f216.body.getD .skip) (by kernel_rfl) (by kernel_rfl) fun x hx => by
  obtain ⟨N, h⟩ := q9s x.1 x.2.1 hx
  exact ⟨qcK N, zc2, qw _, qYf N, (qY2 N x.1 x.2.1).trans h⟩
def qzb (x : List (Val Y33)) (k : Int) : List (Val Y33) := (mkT (.slice 33 Y33) x k).1
def qEv (x : List (Val Y33)) (k : Int) : Int := (mkT (.slice 33 Y33) x k).2
def qye (x : List (Val Y33)) (k : Int) : Prop := Bd (.slice 33 Y33) x ∧ k ≤ 9223372036854775807
def qC6 : Gms := ⟨33, Y33, qye, qzb, qEv⟩
noncomputable def qih (N : Nat) (v6 : List (Val (hd Y33))) (k0 : Int → (List (Val H33)) → (List (Val Y33)) → Option (List (Val H33) × List (Val Y33) × Int)) : Nat → Int → Int → (List (Val H33)) → (List (Val Y33)) → Option (List (Val H33) × List (Val Y33) × Int)
  | 0, _, _, _, _ => none
  | n + 1, v3, v4, v5, v7 => bif (decide (v4 < (v5.length : Int))) then (chk (0 ≤ v4 ∧ v4 < (v5.length : Int)) (chk (v4.toNat < v5.length) (chk (0 ≤ v4 ∧ v4 < ((v5.set v4.toNat (v3, ((v5.getD v4.toNat (qc H33)).2 : Value))).length : Int)) (chk (v4.toNat < (v5.set v4.toNat (v3, ((v5.getD v4.toNat (qc H33)).2 : Value))).length) (chk (v4.toNat < v7.length ∧ v4.toNat < v6.length ∧ ((v6.getD v4.toNat (qc (hd Y33)) : Val H33).2 : Value) = (((v5.set v4.toNat (v3, ((v5.getD v4.toNat (qc H33)).2 : Value))).getD v4.toNat (qc H33)).2 : Value) ∧ qt2 ((v7.getD v4.toNat (qc Y33)).2 : List (Val qa)) (IntKind.i64.wrap (v3 + (1 : Int)))) (qih N v6 k0 n (qGN ((v7.getD v4.toNat (qc Y33)).2 : List (Val qa)) (IntKind.i64.wrap (v3 + (1 : Int)))) (IntKind.i64.wrap (v4 + (1 : Int))) (v5.set v4.toNat (v3, ((v5.getD v4.toNat (qc H33)).2 : Value))) (v7.set v4.toNat (((v7.getD v4.toNat (qc Y33)).1 : Int), (qhO ((v7.getD v4.toNat (qc Y33)).2 : List (Val qa)) (IntKind.i64.wrap (v3 + (1 : Int)))))))))))) else (k0 v3 v5 v7)
noncomputable def qzY (N : Nat) (v0 : List (Val (hd Y33))) (v1 : List (Val Y33)) (v2 : Int) : Option (List (Val H33) × List (Val Y33) × Int) := qih N v0 (fun (v11 : Int) (v12 : List (Val H33)) (v13 : List (Val Y33)) => some (v12, v13, v11)) N v2 (0 : Int) v0 v1
def qk9 : Gam := []
theorem qK5 : Gam.get qk9 191 = none := rfl
def qpV : Nm := ⟨[true, true, false, false, false, true], [], false⟩
theorem qKw : qpV.zero = false := rfl
theorem qPb : qpV.fix = [] := rfl
theorem qDN : qpV.keep = [true, true, false, false, false, true] := rfl
def qyd : Nm := ⟨[false, true], [], false⟩
theorem qFX : qyd.zero = false := rfl
theorem qMY : qyd.fix = [] := rfl
theorem qDT : qyd.keep = [false, true] := rfl
def qrk : Sem := qep [] [(25, 191, qmP, 1, 20)]
def qlV : Nat → Tree := fun _ => .done
def qo5 : Nat → Nm := fun i => if i = 2 then qpV else ⟨[], [], false⟩
def qsk : Nat → Option Jn := fun _ => none
def qql : Nat → Option Nm := fun i => if i = 0 then some qyd else none
def qsJ : Nat → Option Nm := fun _ => none
theorem zcs : qj qlV (Tryz.f135.body.getD .skip) = true := by kernel_rfl
def qcd (N : Nat) : Tab := { tr := qlV, lp := qo5, ex := qql, rg := qsJ, jn := qsk, fuel := N, pins := true, sem := qrk }
theorem qDQ (N : Nat) : (qcd N).pins = true := rfl
theorem q5A (N : Nat) : qk Tryz.prog (qcd N) := qp fun _ => rfl
theorem qHu (N : Nat) : (qcd N).sem = qrk := rfl
theorem qIo (N : Nat) (i : Nat) : (qcd N).tr i = qlV i := rfl
theorem qMj (N : Nat) (i : Nat) : (qcd N).lp i = qo5 i := rfl
theorem qLW (N : Nat) (i : Nat) : (qcd N).ex i = qql i := rfl
theorem qPq (N : Nat) (i : Nat) : (qcd N).rg i = qsJ i := rfl
theorem qNF (N : Nat) (i : Nat) : (qcd N).jn i = qsk i := rfl
theorem qAM (N : Nat) : (qcd N).fuel = N := rfl
noncomputable def qRZ : Code := cut [true, false, true, true, true] (Tryz.f135.body.getD .skip)
theorem q1U {N : Nat} {Q : X → St → Option (List (Val H33) × List (Val Y33) × Int)} {e : List LV} {h : List Blk} : qf tt qk9 (qcd N) qRZ Q ⟨e, h⟩ = qf tt qk9 (qcd N) (cut [true, false, true, true, true] (Tryz.f135.body.getD .skip)) Q ⟨e, h⟩ := rfl
theorem zc0 (N : Nat) (F : List Nat) (v6 : List (Val (hd Y33))) {k0 : Int → (List (Val H33)) → (List (Val Y33)) → Option (List (Val H33) × List (Val Y33) × Int)} {Q : X → St → Option (List (Val H33) × List (Val Y33) × Int)} {c : Code} (hc : c = qRZ) (hret : ∀ st, Q .ret st = qgf tt 33 Y33 H33 F v6 [.tmp 4] st) (h0 : ∀ (v8 : Int) (v9 : List (Val H33)) (v10 : List (Val Y33)), Q (.exit 0) ⟨[u, .one (.int .i64 v8), u, u, u, u, u, u, u, u, u, u, u, u, u, u, u, u, u, u, u, u, u, u, u, u, u], [.row 33 H33 v9 true true 0, .nst F Y33 v6 v10]⟩ = k0 v8 v9 v10) : ∀ (n : Nat) (v3 : Int) (v4 : Int) (v5 : List (Val H33)) (v7 : List (Val Y33)), qF (qf tt qk9 (qcd N) c) true qpV Q n ⟨[.one (.own 0), .one (.int .i64 v3), u, u, u, .one (.int .i64 v4), u, u, u, u, u, u, u, u, u, u, u, u, u, u, u, u, u, u, u, u, u], [.row 33 H33 v5 true true 0, .nst F Y33 v6 v7]⟩ = qih N v6 k0 n v3 v4 v5 v7 := by
  subst hc; intro n; induction n with
  | zero => intros; rfl
  | succ n ih =>
    intro v3 v4 v5 v7
    rw [qM, q1U, qih]; unfold Tryz.f135
    simp (maxSteps := 10000000) -implicitDefEqProofs [qIo, qlV, qMj, qo5, qLW, qql, qPq, qsJ, qNF, qsk, qAM, qDQ, qHu, qrk, q9, qK5, qmP, qC, qbG, qPb, qDN, qKw, qMY, qDT, qFX, hret, h0, ih]
theorem qVL (N : Nat) (F : List Nat) (v0 : List (Val (hd Y33))) (v1 : List (Val Y33)) (v2 : Int) : qf tt qk9 (qcd N) (Tryz.f135.body.getD .skip) (qcl (qgf tt 33 Y33 H33 F v0 [.tmp 4])) ⟨[.one (.own 0), .one (.int .i64 v2), .tup [], .tup [], .tup [], .tup [], .tup [], .tup [], .tup [], .tup [], .tup [], .tup [], .tup [], .tup [], .tup [], .tup [], .tup [], .tup [], .tup [], .tup [], .tup [], .tup [], .tup [], .tup [], .tup [], .tup [], .tup []], [.row 33 H33 v0 true true 0, .nst F Y33 v0 v1]⟩ = qzY N v0 v1 v2 := by
  unfold Tryz.f135
  simp (maxSteps := 10000000) -implicitDefEqProofs [qIo, qlV, qMj, qo5, qLW, qql, qPq, qsJ, qNF, qsk, qAM, qDQ, qHu, qrk, q9, qK5, qmP, qC, qbG, qPb, qDN, qKw, qMY, qDT, qFX]
  rewrite [zc0 (k0 := (fun (v11 : Int) (v12 : List (Val H33)) (v13 : List (Val Y33)) => some (v12, v13, v11))) N _ _ ?_ ?_ ?_]
  · rewrite [qzY]; first | rfl | simp (maxSteps := 10000000) -implicitDefEqProofs []
  · rfl
  · intro; simp only [qK, qJ, qL, qC]
  · intro v11 v12 v13; simp (maxSteps := 10000000) -implicitDefEqProofs [qIo, qlV, qMj, qo5, qLW, qql, qPq, qsJ, qNF, qsk, qAM, qDQ, qHu, qrk, q9, qK5, qmP, qC, qbG, qPb, qDN, qKw, qMY, qDT, qFX]
theorem q8r (hs : List (Val (hd Y33))) (xs : List (Val Y33)) (k : Int) (h : qye xs k) (hl : xs.length = hs.length) (hmx : qP Y33 xs hs = hs) :
    ∃ N vs, vs.map (qai Y33) = (qzb xs k).map (qai Y33) ∧ qzY N hs xs k = some (qP Y33 (qzb xs k) hs, vs, qEv xs k) := by
  refine ⟨xs.length + 1, ?_⟩
  rw [qzY]
  refine qSl (t := Y33) (F := fun n i k ys vs => qih _ hs _ n k i ys vs) (kf := fun k ys vs => some (ys, vs, k)) xs hl hmx (by rw [← hl]; exact h.1.1) (fun n i k fs vs hi hh hv hk l1 l2 hsl ⟨hx, hfx⟩ => ?_) (fun n i k ys vs hl hi => ?_) _ k h.2 (Nat.lt_succ_self _)
  · have hy : (qP Y33 fs hs).length = hs.length := qsV l1
    have e1 : vs[i].2 = fs[i].2 := (Prod.mk.inj hsl).2
    refine ⟨(vs[i].1, qhO vs[i].2 (IntKind.i64.wrap (k + 1))), ?_, ?_⟩
    · show ((0, qhO vs[i].2 _) : Val Y33) = (0, qhO fs[i].2 _)
      rw [e1]; rfl
    · have hb : qt2 vs[i].2 (IntKind.i64.wrap (k + 1)) := ⟨by rw [e1, hfx]; exact (h.1.2 _ (List.getElem_mem hx)).2, qwt _⟩
      rw [qih, qn (by omega), qT8 hi hh l1, qG hv, qG hh, qRY (by omega)]
      repeat rw [List.length_set]
      rw [qe (by omega), qe (by omega), qe (by omega), qe (by omega), qe ⟨by omega, by omega, rfl, hb⟩, Int.toNat_natCast]
      rw [← qUp hh l1]
      simp only [e1]
      rfl
  · rw [qih, ql (by omega)]
theorem qYb : SoundMs Tryz.prog 135 qC6 := qUY (tt := tt) (Γ := qk9) hT qo hm (fn := Tryz.f135) Tryz.func135 (c := Tryz.f135.body.getD .skip) (by kernel_rfl) (by kernel_rfl) fun xs hs n F hx hl hmx => by
  obtain ⟨N, vs, h1, h2⟩ := q8r hs xs n hx hl hmx
  exact ⟨qcd N, vs, rfl, zcs, ⟨qi2 qiS (qRA zed qiQ), q5A N⟩, h1, (qVL N F hs xs n).trans h2⟩
def qac (x : Val Y50) (k : Int) : Val Y50 := (mkT Y50 x k).1
def qZ (x : Val Y50) (k : Int) : Int := (mkT Y50 x k).2
def qbM (x : Val Y50) (k : Int) : Prop := Bd Y50 x ∧ k ≤ 9223372036854775807
def qjw : Gm := ⟨i50, qbM, qac, qZ⟩
noncomputable def m42 (N : Nat) (v0 : Val Y50) (v1 : Int) : Option ((Val Y50) × Int) := chk (qye (v0.2 : List (Val Y33)) v1) (some (((v0.1 : Int), ((qzb (v0.2 : List (Val Y33)) v1) : List (Val Y33))), (qEv (v0.2 : List (Val Y33)) v1)))
def Γ42 : Gam := []
theorem q9r : Gam.get Γ42 135 = none := rfl
def qLx : Sem := qep [(135, qC6.gm)] []
def qwb : Nat → Tree := fun _ => .done
def qAt : Nat → Nm := fun _ => ⟨[], [], false⟩
def qDj : Nat → Option Jn := fun _ => none
def qGc : Nat → Option Nm := fun _ => none
def qGV : Nat → Option Nm := fun _ => none
theorem p42 : qj qwb (Tryz.f42.body.getD .skip) = true := by kernel_rfl
def T42 (N : Nat) : Tab := { tr := qwb, lp := qAt, ex := qGc, rg := qGV, jn := qDj, fuel := N, pins := true, sem := qLx }
theorem zao (N : Nat) : (T42 N).pins = true := rfl
theorem qWR (N : Nat) : qk Tryz.prog (T42 N) := qp fun _ => rfl
theorem q4W (N : Nat) : (T42 N).sem = qLx := rfl
theorem q5g (N : Nat) (i : Nat) : (T42 N).tr i = qwb i := rfl
theorem q2k (N : Nat) (i : Nat) : (T42 N).lp i = qAt i := rfl
theorem q8M (N : Nat) (i : Nat) : (T42 N).ex i = qGc i := rfl
theorem q7q (N : Nat) (i : Nat) : (T42 N).rg i = qGV i := rfl
theorem q53 (N : Nat) (i : Nat) : (T42 N).jn i = qDj i := rfl
theorem zfG (N : Nat) : (T42 N).fuel = N := rfl
theorem q3R (N : Nat) (v0 : Val Y50) (v1 : Int) : qf tt Γ42 (T42 N) (Tryz.f42.body.getD .skip) (qcl (qgO tt Y50 (qN 0 Y50 v0).1 [.tmp 4])) (qbG i50 10 v0 v1) = m42 N v0 v1 := by
  rw [m42]; unfold Tryz.f42
  simp (maxSteps := 10000000) -implicitDefEqProofs [q5g, qwb, q2k, qAt, q8M, qGc, q7q, qGV, q53, qDj, zfG, zao, q4W, qLx, q9, q9r, qC6, qC, qbG]
  try rfl
theorem e42 (x : Val Y50) (k : Int) (h : qbM x k) : ∃ N, m42 N x k = some (qac x k, qZ x k) := ⟨0, by
  rw [m42, qe (show qye _ k from ⟨h.1.2, h.2⟩)]
  rfl⟩
theorem qFA : SoundM Tryz.prog 42 qjw := qUd (tt := tt) (Γ := Γ42) hT qo hm (fn := Tryz.f42) Tryz.func42 (c := Tryz.f42.body.getD .skip) (by kernel_rfl) (by kernel_rfl) fun x n hx => by
  obtain ⟨N, h⟩ := e42 x n hx
  exact ⟨T42 N, rfl, p42, ⟨qi2 (qyn qYb.gm qiS) qiQ, qWR N⟩, (q3R N x n).trans h⟩
def qtf (x : List (Val Y33)) (k : Int) : Int := (mkT (.slice 33 Y33) x k).2
def qxP (x : List (Val Y33)) (k : Int) : Prop := qv8 (.slice 33 Y33) x k
noncomputable def qiK (N : Nat) (v2 : List (Val Y33)) (k0 : Int → Option (qb [i3])) : Nat → Int → Int → Option (qb [i3])
  | 0, _, _ => none
  | n + 1, v3, v4 => bif (decide (v4 < (v2.length : Int))) then (chk (0 ≤ v4 ∧ v4 < (v2.length : Int)) (bif (!(decide (((v2.getD v4.toNat (qc Y33)).1 : Int) = v3))) then (some ((-1 : Int), ())) else (chk (0 ≤ v4 ∧ v4 < (v2.length : Int)) (chk (quI ((v2.getD v4.toNat (qc Y33)).2 : List (Val qa)) (IntKind.i64.wrap (v3 + (1 : Int)))) (bif (decide (((qmt ((v2.getD v4.toNat (qc Y33)).2 : List (Val qa)) (IntKind.i64.wrap (v3 + (1 : Int)))) : Int) < (0 : Int))) then (some ((-1 : Int), ())) else (qiK N v2 k0 n ((qmt ((v2.getD v4.toNat (qc Y33)).2 : List (Val qa)) (IntKind.i64.wrap (v3 + (1 : Int)))) : Int) (IntKind.i64.wrap (v4 + (1 : Int))))))))) else (k0 v3)
noncomputable def qwG (N : Nat) (v0 : List (Val Y33)) (v1 : Int) : Option (qb [i3]) := qiK N v0 (fun (v6 : Int) => some (v6, ())) N v1 (0 : Int)
def qlv : Gam := [(216, qjV)]
theorem qAP : Gam.get qlv 216 = some qjV := rfl
def qqp : Nm := ⟨[true, true, false, false, false, true], [], false⟩
theorem qBH : qqp.zero = false := rfl
theorem qOM : qqp.fix = [] := rfl
theorem qPJ : qqp.keep = [true, true, false, false, false, true] := rfl
def qzC : Nm := ⟨[false, true], [], false⟩
theorem qMH : qzC.zero = false := rfl
theorem qGr : qzC.fix = [] := rfl
theorem qOa : qzC.keep = [false, true] := rfl
def qjP : Nat → Tree := fun _ => .done
def qpc : Nat → Nm := fun i => if i = 2 then qqp else ⟨[], [], false⟩
def qpK : Nat → Option Jn := fun _ => none
def qsQ : Nat → Option Nm := fun i => if i = 0 then some qzC else none
def qpS : Nat → Option Nm := fun _ => none
theorem q43 : qj qjP (Tryz.f136.body.getD .skip) = true := by kernel_rfl
def qcn (N : Nat) : Tab := { tr := qjP, lp := qpc, ex := qsQ, rg := qpS, jn := qpK, fuel := N }
theorem qPA (N : Nat) : (qcn N).pins = false := rfl
theorem q1S (N : Nat) : qk Tryz.prog (qcn N) := qp fun _ => rfl
theorem qO8 (N : Nat) (i : Nat) : (qcn N).tr i = qjP i := rfl
theorem qE0 (N : Nat) (i : Nat) : (qcn N).lp i = qpc i := rfl
theorem qMU (N : Nat) (i : Nat) : (qcn N).ex i = qsQ i := rfl
theorem qC1 (N : Nat) (i : Nat) : (qcn N).rg i = qpS i := rfl
theorem qQn (N : Nat) (i : Nat) : (qcn N).jn i = qpK i := rfl
theorem qID (N : Nat) : (qcn N).fuel = N := rfl
noncomputable def qRr : Code := cut [true, false, true, true, true] (Tryz.f136.body.getD .skip)
theorem zfD {N : Nat} {Q : X → St → Option (qb [i3])} {e : List LV} {h : List Blk} : qf tt qlv (qcn N) qRr Q ⟨e, h⟩ = qf tt qlv (qcn N) (cut [true, false, true, true, true] (Tryz.f136.body.getD .skip)) Q ⟨e, h⟩ := rfl
theorem qV9 (N : Nat) (v2 : List (Val Y33)) {k0 : Int → Option (qb [i3])} {Q : X → St → Option (qb [i3])} {c : Code} (hc : c = qRr) (hret : ∀ st, Q .ret st = qE tt true [i3] [.tmp 4] st) (h0 : ∀ (v5 : Int), Q (.exit 0) ⟨[u, .one (.int .i64 v5), u, u, u, u, u, u, u, u, u, u, u, u, u, u, u, u, u, u, u, u, u, u, u, u, u, u, u, u, u], []⟩ = k0 v5) : ∀ (n : Nat) (v3 : Int) (v4 : Int), qF (qf tt qlv (qcn N) c) false qqp Q n ⟨[.one (.sl 33 Y33 v2 0), .one (.int .i64 v3), u, u, u, .one (.int .i64 v4), u, u, u, u, u, u, u, u, u, u, u, u, u, u, u, u, u, u, u, u, u, u, u, u, u], []⟩ = qiK N v2 k0 n v3 v4 := by
  subst hc; intro n; induction n with
  | zero => intros; rfl
  | succ n ih =>
    intro v3 v4
    rw [qM, zfD, qiK]; unfold Tryz.f136
    simp (maxSteps := 10000000) -implicitDefEqProofs [qO8, qjP, qE0, qpc, qMU, qsQ, qC1, qpS, qQn, qpK, qID, qPA, qOM, qPJ, qBH, qGr, qOa, qMH, qAP, qjV, hret, h0, ih]
theorem zbw (N : Nat) (v0 : List (Val Y33)) (v1 : Int) : qf tt qlv (qcn N) (Tryz.f136.body.getD .skip) (qm tt true [i3] [.tmp 4]) (qq [i48, i3] 31 (v0, v1, ())) = qwG N v0 v1 := by
  unfold Tryz.f136
  simp (maxSteps := 10000000) -implicitDefEqProofs [qO8, qjP, qE0, qpc, qMU, qsQ, qC1, qpS, qQn, qpK, qID, qPA, qOM, qPJ, qBH, qGr, qOa, qMH, qAP, qjV]
  rewrite [qV9 (k0 := (fun (v6 : Int) => some (v6, ()))) N _ ?_ ?_ ?_]
  · rewrite [qwG]; first | rfl | simp (maxSteps := 10000000) -implicitDefEqProofs []
  · rfl
  · intro; simp only [qK, qJ, qL, qC]
  · intro v6; simp (maxSteps := 10000000) -implicitDefEqProofs [qO8, qjP, qE0, qpc, qMU, qsQ, qC1, qpS, qQn, qpK, qID, qPA, qOM, qPJ, qBH, qGr, qOa, qMH, qAP, qjV]
def qvv : G := { ps := [i48, i3], rs := [i3], dp := true, pre := fun x => qxP x.1 x.2.1, fn := fun x => (qtf x.1 x.2.1, ()) }
theorem zeX (x : List (Val Y33)) (k : Int) (h : qxP x k) : ∃ N, qwG N x k = some (qtf x k, ()) := ⟨x.length + 1, by
  obtain ⟨hm, hb, h0, hc⟩ := h
  rw [qwG]
  refine qPE (t := Y33) (F := fun n i k => qiK _ x _ n k i) (kf := fun k => some (k, ())) x hb.1 (fun n i k hi hx h0 hc => ?_) (fun n i k hi => ?_) _ k (Nat.lt_succ_self _) hm h0 hc
  · have hb := hb.2 _ (List.getElem_mem hi)
    obtain ⟨e1, e2⟩ := Prod.mk.inj hx
    have e1 : k = x[i].1 := e1
    have ek : IntKind.i64.wrap (k + 1) = k + 1 := qaH (by omega) (by omega)
    have hcc : (k + 1) + (qX (.slice 108 qa) x[i].2 : Nat) ≤ 4611686018427387904 := by
      have : qX Y33 x[i] = 1 + qX (.slice 108 qa) x[i].2 := rfl
      omega
    have hk := qh5 (.slice 108 qa) x[i].2 (k + 1) (by omega) hcc
    have hp : quI x[i].2 (k + 1) := ⟨by rw [← ek]; exact e2, hb.2, by omega, by have : qQ (.slice 108 qa) x[i].2 = qX (.slice 108 qa) x[i].2 := rfl; omega⟩
    have ev : qmt x[i].2 (k + 1) = (mkE (.slice 108 qa) x[i].2 (k + 1)).2 := rfl
    rw [qiK, qn (by omega), qe (by omega), qG hi, qaP, qn e1.symm, ek, qe (by omega), qe hp, ql (by omega), ev, ← ek]
    rfl
  · rw [qiK, ql (by omega)]⟩
theorem qZs : Sound Tryz.prog 136 qvv := qt (tt := tt) (Γ := qlv) hT (qg zeM qo) hm (fn := Tryz.f136) Tryz.func136 (c := Tryz.f136.body.getD .skip) (by kernel_rfl) (by kernel_rfl) fun x hx => by
  obtain ⟨N, h⟩ := zeX x.1 x.2.1 hx
  exact ⟨qcn N, q43, qw _, q1S N, (zbw N x.1 x.2.1).trans h⟩
def qbx (x : Val Y50) (k : Int) : Int := (mkT Y50 x k).2
def qdG (x : Val Y50) (k : Int) : Prop := qv8 Y50 x k
noncomputable def m43 (N : Nat) (v0 : Val Y50) (v1 : Int) : Option (qb [i3]) := chk (qxP (v0.2 : List (Val Y33)) v1) (bif (decide (((qtf (v0.2 : List (Val Y33)) v1) : Int) < (0 : Int))) then (some ((-1 : Int), ())) else (some (((qtf (v0.2 : List (Val Y33)) v1) : Int), ())))
def Γ43 : Gam := [(136, qvv)]
theorem qXp : Gam.get Γ43 136 = some qvv := rfl
def quz : Nat → Tree := fun _ => .done
def qOB : Nat → Nm := fun _ => ⟨[], [], false⟩
def qGK : Nat → Option Jn := fun _ => none
def qEZ : Nat → Option Nm := fun _ => none
def qO4 : Nat → Option Nm := fun _ => none
theorem p43 : qj quz (Tryz.f43.body.getD .skip) = true := by kernel_rfl
def T43 (N : Nat) : Tab := { tr := quz, lp := qOB, ex := qEZ, rg := qO4, jn := qGK, fuel := N }
theorem q3c (N : Nat) : (T43 N).pins = false := rfl
theorem q22 (N : Nat) : qk Tryz.prog (T43 N) := qp fun _ => rfl
theorem q44 (N : Nat) (i : Nat) : (T43 N).tr i = quz i := rfl
theorem zaI (N : Nat) (i : Nat) : (T43 N).lp i = qOB i := rfl
theorem q9w (N : Nat) (i : Nat) : (T43 N).ex i = qEZ i := rfl
theorem zdW (N : Nat) (i : Nat) : (T43 N).rg i = qO4 i := rfl
theorem qWI (N : Nat) (i : Nat) : (T43 N).jn i = qGK i := rfl
theorem qVu (N : Nat) : (T43 N).fuel = N := rfl
theorem qXW (N : Nat) (v0 : Val Y50) (v1 : Int) : qf tt Γ43 (T43 N) (Tryz.f43.body.getD .skip) (qm tt true [i3] [.tmp 4]) (qq [i50, i3] 12 (v0, v1, ())) = m43 N v0 v1 := by
  rw [m43]; unfold Tryz.f43
  simp (maxSteps := 10000000) -implicitDefEqProofs [q44, quz, zaI, qOB, q9w, qEZ, zdW, qO4, qWI, qGK, qVu, q3c, qXp, qvv]
  try rfl
def g43 : G := { ps := [i50, i3], rs := [i3], dp := true, pre := fun x => qdG x.1 x.2.1, fn := fun x => (qbx x.1 x.2.1, ()) }
theorem e43 (x : Val Y50) (k : Int) (h : qdG x k) : ∃ N, m43 N x k = some (qbx x k, ()) := ⟨0, by
  obtain ⟨hm, hb, h0, hc⟩ := h
  have hc' : k + (qQ (.slice 33 Y33) x.2 : Nat) ≤ 4611686018427387904 := by
    have : qQ Y50 x = 0 + qQ (.slice 33 Y33) x.2 := rfl
    omega
  have hk := qdS (.slice 33 Y33) x.2 k h0 hc'
  have ev : qtf x.2 k = (mkT (.slice 33 Y33) x.2 k).2 := rfl
  rw [m43, qe (show qxP x.2 k from ⟨(Prod.mk.inj hm).2, hb.2, h0, hc'⟩), ql (by omega)]
  rfl⟩
theorem s43 : Sound Tryz.prog 43 g43 := qt (tt := tt) (Γ := Γ43) hT (qg qZs qo) hm (fn := Tryz.f43) Tryz.func43 (c := Tryz.f43.body.getD .skip) (by kernel_rfl) (by kernel_rfl) fun x hx => by
  obtain ⟨N, h⟩ := e43 x.1 x.2.1 hx
  exact ⟨T43 N, p43, qw _, q22 N, (qXW N x.1 x.2.1).trans h⟩
end Go.T
