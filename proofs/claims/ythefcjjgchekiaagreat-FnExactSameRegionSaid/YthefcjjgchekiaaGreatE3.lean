/- The library's Concat at names of atoms. -/
import Derived.Test.YthefcjjgchekiaaGreatE2
set_option linter.unusedSimpArgs false
set_option linter.unusedVariables false
namespace Go.T
open Go Go.Proofs
set_option maxHeartbeats 4000000
set_option maxRecDepth 100000
theorem srH284 : (Own1.gr 108 (hd Y108)).Ok Tryz.prog 284 :=
  gr_of Tryz.growL rfl ⟨_, Tryz.func284, by kernel_rfl, by kernel_rfl⟩ hTH (ti := iH108) rfl
def catH (xss : List (List (Val (hd Y108)))) : List (Val (hd Y108)) := xss.flatten
def catH_pre (xss : List (List (Val (hd Y108)))) : Prop := xss.length ≤ 1048576 ∧ (catH xss).length ≤ 1048576
def gH219 : G := { ps := [iH249], rs := [iH31], dp := true, pre := fun x => catH_pre x.1, fn := fun x => (catH x.1, ()) }
noncomputable def mH219_l3 (N : Nat) (v1 : List (Val (.slice 108 (hd Y108)))) (v3 : List (Val (.slice 108 (hd Y108)))) (v4 : Int) (k0 : Int → Option (Vals [iH31])) : Nat → Int → Int → Option (Vals [iH31])
  | 0, _, _ => none
  | n + 1, v2, v5 => bif (decide (v5 < v4)) then (chk (0 ≤ v5 ∧ v5 < (v3.length : Int)) (bif (decide ((IntKind.i64.wrap (v2 + (((v3.getD v5.toNat (dflt (.slice 108 (hd Y108)))) : List (Val (hd Y108))).length : Int))) < (0 : Int))) then (none) else (mH219_l3 N v1 v3 v4 k0 n (IntKind.i64.wrap (v2 + (((v3.getD v5.toNat (dflt (.slice 108 (hd Y108)))) : List (Val (hd Y108))).length : Int))) (IntKind.i64.wrap (v5 + (1 : Int)))))) else (k0 v2)
noncomputable def mH219_l11 (N : Nat) (v8 : List (Val (.slice 108 (hd Y108)))) (v9 : Int) (k2 : (List (Val (hd Y108))) → Option (Vals [iH31])) : Nat → Int → (List (Val (hd Y108))) → Option (Vals [iH31])
  | 0, _, _ => none
  | n + 1, v10, v11 => bif (decide (v10 < v9)) then (chk (0 ≤ v10 ∧ v10 < (v8.length : Int)) (chk (v11.length + ((v8.getD v10.toNat (dflt (.slice 108 (hd Y108)))) : List (Val (hd Y108))).length ≤ 1048576) (mH219_l11 N v8 v9 k2 n (IntKind.i64.wrap (v10 + (1 : Int))) (v11 ++ ((v8.getD v10.toNat (dflt (.slice 108 (hd Y108)))) : List (Val (hd Y108))))))) else (k2 v11)
noncomputable def mH219 (N : Nat) (v0 : List (Val (.slice 108 (hd Y108)))) : Option (Vals [iH31]) := mH219_l3 N v0 v0 (v0.length : Int) (fun (v7 : Int) => chk (0 ≤ v7 ∧ v7 ≤ 1048576) (mH219_l11 N v0 (v0.length : Int) (fun (v13 : List (Val (hd Y108))) => some (v13, ())) N (0 : Int) ([] : List (Val (hd Y108))))) N (0 : Int) (0 : Int)
def ΓH219 : Gam := []
def nlH219_3 : Nm := ⟨[true, false, false, true, false, false, false, false, false, true, true, true], [], false⟩
theorem nlH219_3_zero : nlH219_3.zero = false := rfl
theorem nlH219_3_fix : nlH219_3.fix = [] := rfl
theorem nlH219_3_keep : nlH219_3.keep = [true, false, false, true, false, false, false, false, false, true, true, true] := rfl
def nlH219_11 : Nm := ⟨[false, false, false, false, false, false, true, false, false, false, false, false, false, false, false, false, false, false, false, false, false, false, false, false, false, true, true, true], [], false⟩
theorem nlH219_11_zero : nlH219_11.zero = false := rfl
theorem nlH219_11_fix : nlH219_11.fix = [] := rfl
theorem nlH219_11_keep : nlH219_11.keep = [false, false, false, false, false, false, true, false, false, false, false, false, false, false, false, false, false, false, false, false, false, false, false, false, false, true, true, true] := rfl
def nxH219_0 : Nm := ⟨[true, false, false, true], [], false⟩
theorem nxH219_0_zero : nxH219_0.zero = false := rfl
theorem nxH219_0_fix : nxH219_0.fix = [] := rfl
theorem nxH219_0_keep : nxH219_0.keep = [true, false, false, true] := rfl
def nxH219_2 : Nm := ⟨[false, false, false, false, false, false, true], [], false⟩
theorem nxH219_2_zero : nxH219_2.zero = false := rfl
theorem nxH219_2_fix : nxH219_2.fix = [] := rfl
theorem nxH219_2_keep : nxH219_2.keep = [false, false, false, false, false, false, true] := rfl
def trH219 : Nat → Tree := fun _ => .done
def lpH219 : Nat → Nm := fun i => if i = 3 then nlH219_3 else if i = 11 then nlH219_11 else ⟨[], [], false⟩
noncomputable def semH219 : Sem := ownSem [(284, .gr 108 (hd Y108))]
def jnH219 : Nat → Option Jn := fun _ => none
def exH219 : Nat → Option Nm := fun i => if i = 0 then some nxH219_0 else if i = 2 then some nxH219_2 else none
def rgH219 : Nat → Option Nm := fun _ => none
theorem pH219 : plansOk trH219 (Tryz.f219.body.getD .skip) = true := by kernel_rfl
noncomputable def TH219 (N : Nat) : Tab := { tr := trH219, lp := lpH219, ex := exH219, rg := rgH219, jn := jnH219, fuel := N, sem := semH219 }
theorem TH219_pins (N : Nat) : (TH219 N).pins = false := rfl
theorem tbH219 (N : Nat) : TbOk Tryz.prog (TH219 N) := tb_none fun _ => rfl
theorem TH219_sem (N : Nat) : (TH219 N).sem = semH219 := rfl
theorem TH219_tr (N : Nat) (i : Nat) : (TH219 N).tr i = trH219 i := rfl
theorem TH219_lp (N : Nat) (i : Nat) : (TH219 N).lp i = lpH219 i := rfl
theorem TH219_ex (N : Nat) (i : Nat) : (TH219 N).ex i = exH219 i := rfl
theorem TH219_rg (N : Nat) (i : Nat) : (TH219 N).rg i = rgH219 i := rfl
theorem TH219_jn (N : Nat) (i : Nat) : (TH219 N).jn i = jnH219 i := rfl
theorem TH219_fuel (N : Nat) : (TH219 N).fuel = N := rfl
noncomputable def cH219_3 : Code := cut [true, true, false, true, true, true] (Tryz.f219.body.getD .skip)
theorem cH219_3_at {N : Nat} {Q : X → St → Option (Vals [iH31])} {e : List LV} {h : List Blk} : runT ttH ΓH219 (TH219 N) cH219_3 Q ⟨e, h⟩ = runT ttH ΓH219 (TH219 N) (cut [true, true, false, true, true, true] (Tryz.f219.body.getD .skip)) Q ⟨e, h⟩ := rfl
theorem rH219_l3 (N : Nat) (v1 : List (Val (.slice 108 (hd Y108)))) (v3 : List (Val (.slice 108 (hd Y108)))) (v4 : Int) {k0 : Int → Option (Vals [iH31])} {Q : X → St → Option (Vals [iH31])} {c : Code} (hc : c = cH219_3) (hret : ∀ st, Q .ret st = retS ttH true [iH31] [.tmp 2] st) (h0 : ∀ (v6 : Int), Q (.exit 0) ⟨[.one (.sl 31 (.slice 108 (hd Y108)) v1 0), u, u, .one (.int .i64 v6), u, u, u, u, u, u, u, u, u, u, u, u, u, u, u, u, u, u, u, u, u, u, u, u, u, u, u, u, u, u, u, u], []⟩ = k0 v6) : ∀ (n : Nat) (v2 : Int) (v5 : Int), loopR (runT ttH ΓH219 (TH219 N) c) false nlH219_3 Q n ⟨[.one (.sl 31 (.slice 108 (hd Y108)) v1 0), u, u, .one (.int .i64 v2), u, u, u, u, u, .one (.sl 31 (.slice 108 (hd Y108)) v3 0), .one (.int .i64 v4), .one (.int .i64 v5), u, u, u, u, u, u, u, u, u, u, u, u, u, u, u, u, u, u, u, u, u, u, u, u], []⟩ = mH219_l3 N v1 v3 v4 k0 n v2 v5 := by
  subst hc; intro n; induction n with
  | zero => intros; rfl
  | succ n ih =>
    intro v2 v5
    rw [loop_succ, cH219_3_at, mH219_l3]; unfold Tryz.f219
    simp (maxSteps := 10000000) -implicitDefEqProofs [TH219_tr, trH219, TH219_lp, lpH219, TH219_ex, exH219, TH219_rg, rgH219, TH219_jn, jnH219, TH219_fuel, TH219_pins, TH219_sem, semH219, semR', nlH219_3_fix, nlH219_3_keep, nlH219_3_zero, nlH219_11_fix, nlH219_11_keep, nlH219_11_zero, nxH219_0_fix, nxH219_0_keep, nxH219_0_zero, nxH219_2_fix, nxH219_2_keep, nxH219_2_zero, hret, h0, ih]
noncomputable def cH219_11 : Code := cut [true, true, true, true, false, true, true, true] (Tryz.f219.body.getD .skip)
theorem cH219_11_at {N : Nat} {Q : X → St → Option (Vals [iH31])} {e : List LV} {h : List Blk} : runT ttH ΓH219 (TH219 N) cH219_11 Q ⟨e, h⟩ = runT ttH ΓH219 (TH219 N) (cut [true, true, true, true, false, true, true, true] (Tryz.f219.body.getD .skip)) Q ⟨e, h⟩ := rfl
theorem rH219_l11 (N : Nat) (v8 : List (Val (.slice 108 (hd Y108)))) (v9 : Int) {k2 : (List (Val (hd Y108))) → Option (Vals [iH31])} {Q : X → St → Option (Vals [iH31])} {c : Code} (hc : c = cH219_11) (hret : ∀ st, Q .ret st = retS ttH true [iH31] [.tmp 2] st) (h2 : ∀ (v12 : List (Val (hd Y108))), Q (.exit 2) ⟨[u, u, u, u, u, u, .one (.own 0), u, u, u, u, u, u, u, u, u, u, u, u, u, u, u, u, u, u, u, u, u, u, u, u, u, u, u, u, u], [.row 108 (hd Y108) v12 true true 0]⟩ = k2 v12) : ∀ (n : Nat) (v10 : Int) (v11 : List (Val (hd Y108))), loopR (runT ttH ΓH219 (TH219 N) c) false nlH219_11 Q n ⟨[u, u, u, u, u, u, .one (.own 0), u, u, u, u, u, u, u, u, u, u, u, u, u, u, u, u, u, u, .one (.sl 31 (.slice 108 (hd Y108)) v8 1), .one (.int .i64 v9), .one (.int .i64 v10), u, u, u, u, u, u, u, u], [.row 108 (hd Y108) v11 true true 0]⟩ = mH219_l11 N v8 v9 k2 n v10 v11 := by
  subst hc; intro n; induction n with
  | zero => intros; rfl
  | succ n ih =>
    intro v10 v11
    rw [loop_succ, cH219_11_at, mH219_l11]; unfold Tryz.f219
    simp (maxSteps := 10000000) -implicitDefEqProofs [TH219_tr, trH219, TH219_lp, lpH219, TH219_ex, exH219, TH219_rg, rgH219, TH219_jn, jnH219, TH219_fuel, TH219_pins, TH219_sem, semH219, semR', nlH219_3_fix, nlH219_3_keep, nlH219_3_zero, nlH219_11_fix, nlH219_11_keep, nlH219_11_zero, nxH219_0_fix, nxH219_0_keep, nxH219_0_zero, nxH219_2_fix, nxH219_2_keep, nxH219_2_zero, hret, h2, ih]
theorem runH219 (N : Nat) (v0 : List (Val (.slice 108 (hd Y108)))) : runT ttH ΓH219 (TH219 N) (Tryz.f219.body.getD .skip) (retR ttH true [iH31] [.tmp 2]) (entryP [iH249] 36 (v0, ())) = mH219 N v0 := by
  unfold Tryz.f219
  simp (maxSteps := 10000000) -implicitDefEqProofs [TH219_tr, trH219, TH219_lp, lpH219, TH219_ex, exH219, TH219_rg, rgH219, TH219_jn, jnH219, TH219_fuel, TH219_pins, TH219_sem, semH219, semR', nlH219_3_fix, nlH219_3_keep, nlH219_3_zero, nlH219_11_fix, nlH219_11_keep, nlH219_11_zero, nxH219_0_fix, nxH219_0_keep, nxH219_0_zero, nxH219_2_fix, nxH219_2_keep, nxH219_2_zero]
  rewrite [rH219_l3 (k0 := (fun (v7 : Int) => chk (0 ≤ v7 ∧ v7 ≤ 1048576) (mH219_l11 N v0 (v0.length : Int) (fun (v13 : List (Val (hd Y108))) => some (v13, ())) N (0 : Int) ([] : List (Val (hd Y108)))))) N _ _ _ ?_ ?_ ?_]
  · rewrite [mH219]; first | rfl | simp (maxSteps := 10000000) -implicitDefEqProofs []
  · rfl
  · intro; simp only [seqR_ret, blockR_ret, retR_ret, retX_ret]
  · intro v7; simp (maxSteps := 10000000) -implicitDefEqProofs [TH219_tr, trH219, TH219_lp, lpH219, TH219_ex, exH219, TH219_rg, rgH219, TH219_jn, jnH219, TH219_fuel, TH219_pins, TH219_sem, semH219, semR', nlH219_3_fix, nlH219_3_keep, nlH219_3_zero, nlH219_11_fix, nlH219_11_keep, nlH219_11_zero, nxH219_0_fix, nxH219_0_keep, nxH219_0_zero, nxH219_2_fix, nxH219_2_keep, nxH219_2_zero]
    rewrite [rH219_l11 (k2 := (fun (v13 : List (Val (hd Y108))) => some (v13, ()))) N _ _ ?_ ?_ ?_]
    · first | rfl | simp (maxSteps := 10000000) -implicitDefEqProofs []
    · rfl
    · intro; simp only [seqR_ret, blockR_ret, retR_ret, retX_ret]
    · intro v13; simp (maxSteps := 10000000) -implicitDefEqProofs [TH219_tr, trH219, TH219_lp, lpH219, TH219_ex, exH219, TH219_rg, rgH219, TH219_jn, jnH219, TH219_fuel, TH219_pins, TH219_sem, semH219, semR', nlH219_3_fix, nlH219_3_keep, nlH219_3_zero, nlH219_11_fix, nlH219_11_keep, nlH219_11_zero, nxH219_0_fix, nxH219_0_keep, nxH219_0_zero, nxH219_2_fix, nxH219_2_keep, nxH219_2_zero]
theorem tH219a (N : Nat) (xss : List (List (Val (hd Y108)))) (K : Int → Option (Vals [iH31])) (hl : xss.length ≤ 1048576) (n : Nat) (hn : xss.length < n) (s : Int) : mH219_l3 N xss xss xss.length K n s 0 = foldK (fun _ (x : List (Val (hd Y108))) (s : Int) K => bif decide (IntKind.i64.wrap (s + (x.length : Int)) < 0) then none else K (IntKind.i64.wrap (s + (x.length : Int)))) 0 xss s K :=
  loop_fold (xs := xss) (F := fun n i s => mH219_l3 N xss xss xss.length K n s i) hl (fun n i s hi => by rw [mH219_l3, bif_dec (by omega), chk_pos (by omega), getD_atI hi]) (fun n i s hi => by rw [mH219_l3, bif_decN (by omega)]) n s hn
theorem tH219b (N : Nat) (xss : List (List (Val (hd Y108)))) (K : List (Val (hd Y108)) → Option (Vals [iH31])) (hl : xss.length ≤ 1048576) (n : Nat) (hn : xss.length < n) (s : List (Val (hd Y108))) : mH219_l11 N xss xss.length K n 0 s = foldK (fun _ (x : List (Val (hd Y108))) (s : List (Val (hd Y108))) K => chk (s.length + x.length ≤ 1048576) (K (s ++ x))) 0 xss s K :=
  loop_fold (xs := xss) (F := fun n i s => mH219_l11 N xss xss.length K n i s) hl (fun n i s hi => by rw [mH219_l11, bif_dec (by omega), chk_pos (by omega), getD_atI hi]) (fun n i s hi => by rw [mH219_l11, bif_decN (by omega)]) n s hn
theorem eH219 (xss : List (List (Val (hd Y108)))) (h : catH_pre xss) : ∃ N, mH219 N xss = some (catH xss, ()) := ⟨xss.length + 1, by
  obtain ⟨hl, ht⟩ := h
  have ht' : xss.flatten.length ≤ 1048576 := ht
  rw [mH219, tH219a _ _ _ hl _ (Nat.lt_succ_self _)]
  refine (cat_size xss 0 0 (by simpa using ht')).trans ?_
  rw [chk_pos (by omega), tH219b _ _ _ hl _ (Nat.lt_succ_self _)]
  exact (cat_app xss 0 [] (by simpa using ht')).trans rfl⟩
theorem sH219 : Sound Tryz.prog 219 gH219 := sound_run (tt := ttH) (Γ := ΓH219) hTH ok_nil hm (fn := Tryz.f219) Tryz.func219 (c := Tryz.f219.body.getD .skip) (by kernel_rfl) (by kernel_rfl) fun x hx => by
  obtain ⟨N, h⟩ := eH219 x.1 hx
  exact ⟨TH219 N, pH219, ownSem_ok (sr_cons srH284 sr_nil), tbH219 N, (runH219 N x.1).trans h⟩
end Go.T
