/- Normal cells: what the program's normalOf computes. -/
import Derived.Test.YthefcjjgchekiaaGreatB3
set_option linter.unusedSimpArgs false
set_option linter.unusedVariables false
namespace Go.T
open Go Go.Proofs
set_option maxHeartbeats 4000000
set_option maxRecDepth 100000
def catV (xss : List (Val (.slice 108 Y108))) : List (Val Y108) := List.flatten (α := Val Y108) xss
def catV_pre (xss : List (Val (.slice 108 Y108))) : Prop := xss.length ≤ 1048576 ∧ (catV xss).length ≤ 1048576
theorem cat_size {α ρ : Type} {r : Option ρ} {k : Int → Option ρ} : ∀ (xs : List (List α)) (i : Nat) (s : Nat), s + xs.flatten.length ≤ 1048576 →
    foldK (fun _ (x : List α) (s : Int) K => bif decide (IntKind.i64.wrap (s + (x.length : Int)) < 0) then r else K (IntKind.i64.wrap (s + (x.length : Int)))) i xs (s : Int) k = k ((s + xs.flatten.length : Nat) : Int)
  | [], _, s, _ => by rw [foldK]; simp
  | x :: xs, i, s, h => by
    simp only [List.flatten_cons, List.length_append] at h ⊢
    have e : IntKind.i64.wrap ((s : Int) + (x.length : Int)) = ((s + x.length : Nat) : Int) := by rw [wrap64 (by omega) (by omega)]; omega
    rw [foldK, e, bif_decN (by omega)]
    dsimp only
    rw [cat_size xs (i + 1) (s + x.length) (by omega), Nat.add_assoc]
theorem cat_app {α ρ : Type} {k : List α → Option ρ} : ∀ (xs : List (List α)) (i : Nat) (s : List α), s.length + xs.flatten.length ≤ 1048576 →
    foldK (fun _ (x : List α) (s : List α) K => chk (s.length + x.length ≤ 1048576) (K (s ++ x))) i xs s k = k (s ++ xs.flatten)
  | [], _, s, _ => by rw [foldK]; simp
  | x :: xs, i, s, h => by
    simp only [List.flatten_cons, List.length_append] at h ⊢
    rw [foldK, chk_pos (by omega)]
    dsimp only
    rw [cat_app xs (i + 1) (s ++ x) (by rw [List.length_append]; omega), List.append_assoc]
def g219 : G := { ps := [i249], rs := [i31], dp := false, pre := fun x => catV_pre x.1, fn := fun x => (catV x.1, ()) }
theorem t219a (N : Nat) (xss : List (Val (.slice 108 Y108))) (K : Int → Option (Vals [i31])) (hl : xss.length ≤ 1048576) (n : Nat) (hn : xss.length < n) (s : Int) : m219_l3 N xss xss xss.length K n s 0 = foldK (fun _ (x : List (Val Y108)) (s : Int) K => bif decide (IntKind.i64.wrap (s + (x.length : Int)) < 0) then none else K (IntKind.i64.wrap (s + (x.length : Int)))) 0 xss s K :=
  loop_fold (xs := xss) (F := fun n i s => m219_l3 N xss xss xss.length K n s i) hl (fun n i s hi => by rw [m219_l3, bif_dec (by omega), chk_pos (by omega), getD_atI hi]) (fun n i s hi => by rw [m219_l3, bif_decN (by omega)]) n s hn
theorem t219b (N : Nat) (xss : List (Val (.slice 108 Y108))) (K : List (Val Y108) → Option (Vals [i31])) (hl : xss.length ≤ 1048576) (n : Nat) (hn : xss.length < n) (s : List (Val Y108)) : m219_l11 N xss xss.length K n 0 s = foldK (fun _ (x : List (Val Y108)) (s : List (Val Y108)) K => chk (s.length + x.length ≤ 1048576) (K (s ++ x))) 0 xss s K :=
  loop_fold (xs := xss) (F := fun n i s => m219_l11 N xss xss.length K n i s) hl (fun n i s hi => by rw [m219_l11, bif_dec (by omega), chk_pos (by omega), getD_atI hi]) (fun n i s hi => by rw [m219_l11, bif_decN (by omega)]) n s hn
theorem e219 (xss : List (Val (.slice 108 Y108))) (h : catV_pre xss) : ∃ N, m219 N xss = some (catV xss, ()) := ⟨xss.length + 1, by
  obtain ⟨hl, ht⟩ := h
  have ht' : (List.flatten (α := Val Y108) xss).length ≤ 1048576 := ht
  rw [m219, t219a _ _ _ hl _ (Nat.lt_succ_self _)]
  refine (cat_size (α := Val Y108) xss 0 0 (by simpa using ht')).trans ?_
  rw [chk_pos (by omega), t219b _ _ _ hl _ (Nat.lt_succ_self _)]
  exact (cat_app (α := Val Y108) xss 0 [] (by simpa using ht')).trans rfl⟩
theorem s219 : Sound Tryz.prog 219 g219 := sound_run (tt := tt) (Γ := Γ219) hT ok_nil hm (fn := Tryz.f219) Tryz.func219 (c := Tryz.f219.body.getD .skip) (by kernel_rfl) (by kernel_rfl) fun x hx => by
  obtain ⟨N, h⟩ := e219 x.1 hx
  exact ⟨T219 N, p219, ownSem_ok (sr_cons sr284 sr_nil), tb219 N, (run219 N x.1).trans h⟩
def badA (a : Val Y108) : Bool := !hasVar a && (decide ((0 : Int) < a.2.1) || (decide ((a.2.1 : Int) = 0) && a.2.2))
def nrmV (d : Int) (l : List (Val Y108)) : Val Y33 := bif l.any badA then noneC d else (d, nrmL (l.filter hasVar))
def okL (d : Int) (l : List (Val Y108)) : Prop := (0 ≤ d ∧ d ≤ 4) ∧ l.length ≤ 1048576 ∧ ∀ a ∈ l, okA a ∧ (List.length (α := Int) a.1 : Int) = d
def nrmV_pre (d : Int) (l : List (Val Y108)) : Prop := okL d l
theorem nrm_fold {ρ : Type} {r : Option ρ} {k : List (Val Y108) → Option ρ} : ∀ (xs : List (Val Y108)) (i : Nat) (s : List (Val Y108)), s.length + xs.length ≤ 1048576 →
    foldK (fun _ (x : Val Y108) (s : List (Val Y108)) K => bif badA x then r else bif hasVar x then chk (s.length + [x].length ≤ 1048576) (K (s ++ [x])) else K s) i xs s k = bif xs.any badA then r else k (s ++ xs.filter hasVar)
  | [], _, s, _ => by rw [foldK]; simp
  | x :: xs, i, s, h => by
    simp only [List.length_cons] at h
    rw [foldK]
    cases hb : badA x with
    | true => simp [hb]
    | false =>
      cases hv : hasVar x with
      | true => simp only [cond_false, cond_true]; rw [chk_pos (by simp; omega), nrm_fold xs _ _ (by simp; omega)]; simp [hb, hv]
      | false => simp only [cond_false]; rw [nrm_fold xs _ _ (by omega)]; simp [hb, hv]
theorem cmpV_A {a b : Val Y108} {d : Int} (ha : okA a ∧ (List.length (α := Int) a.1 : Int) = d) (hb : okA b ∧ (List.length (α := Int) b.1 : Int) = d) : cmpV a b = cmpA (atm a) (atm b) := by
  have h1 : isAtom a = true := ha.1
  have h2 : isAtom b = true := hb.1
  have h3 : List.length (α := Int) a.1 = List.length (α := Int) b.1 := by have := ha.2; have := hb.2; omega
  simp [cmpV, h1, h2, h3]
theorem srt_pre {d : Int} {l : List (Val Y108)} (hl : l.length ≤ 1048576) (h : ∀ a ∈ l, okA a ∧ (List.length (α := Int) a.1 : Int) = d) (hv : ∀ a ∈ l, hasVar a = true) : SrPre (fun _ _ => True) cmpV srtV l := by
  refine ⟨hl, fun _ _ _ _ => trivial, fun x hx => ?_, fun x hx y hy z hz h1 h2 => ?_, fun x hx y hy z hz h1 h2 => ?_, fun ys hp ho => ?_⟩
  · rw [cmpV_A (h x hx) (h x hx), cmpA_cmp.self]; omega
  · rw [cmpV_A (h x hx) (h y hy)] at h1; rw [cmpV_A (h y hy) (h z hz)] at h2; rw [cmpV_A (h x hx) (h z hz)]
    exact cmpA_cmp.lt_le h1 (Int.le_of_lt h2)
  · rw [cmpV_A (h x hx) (h y hy)] at h1; rw [cmpV_A (h y hy) (h z hz)] at h2; rw [cmpV_A (h x hx) (h z hz)]
    have a1 := cmpA_cmp.anti (atm x) (atm y); have a2 := cmpA_cmp.anti (atm y) (atm z); have a3 := cmpA_cmp.anti (atm x) (atm z)
    have := cmpA_cmp.tr (atm z) (atm y) (atm x) (by omega) (by omega)
    omega
  · refine srtA_uniq (fun a ha => okA_low (h a ha).1 (hv a ha)) hp (ho.imp_of_mem fun {a b} ha hb hab => ?_)
    have ha' := hp.mem_iff.1 ha
    have hb' := hp.mem_iff.1 hb
    rwa [cmpV_A (h b hb') (h a ha')] at hab
theorem keep_fold {ρ α : Type} {p : Nat → Bool} {k : List α → Option ρ} {d : α} : ∀ (m i : Nat) (hs : List α) (s : List α), hs.length - i = m → i ≤ hs.length → s.length + m ≤ 1048576 →
    foldK (fun j (x : α) (s : List α) K => bif p j then K s else chk (s.length + [x].length ≤ 1048576) (K (s ++ [x]))) i (hs.drop i) s k = k (s ++ ((List.range' i m).filter fun i => !p i).map fun i => hs.getD i d)
  | 0, i, hs, s, h, hi, _ => by rw [List.drop_eq_nil_of_le (by omega), foldK]; simp
  | m + 1, i, hs, s, h, hi, hs' => by
    have hlt : i < hs.length := by omega
    rw [drop_at hlt, foldK, List.range'_succ]
    cases hp : p i with
    | true => simp only [cond_true]; rw [keep_fold (d := d) m (i + 1) hs s (by omega) (by omega) (by omega)]; simp [hp]
    | false =>
      simp only [cond_false]
      rw [chk_pos (by simp; omega), keep_fold (d := d) m (i + 1) hs _ (by omega) (by omega) (by simp; omega)]
      simp [hp, List.getD, hlt]
def g230 : G := { ps := [i3, i31], rs := [i33], dp := true, pre := fun x => nrmV_pre x.1 x.2.1, fn := fun x => (nrmV x.1 x.2.1, ()) }
theorem t230a (N : Nat) (d : Int) (l : List (Val Y108)) (K : List (Val Y108) → Option (Vals [i33])) (h : okL d l) (n : Nat) (hn : l.length < n) (s : List (Val Y108)) : m230_l3 N d l l.length 0 K n 0 s = foldK (fun _ (x : Val Y108) (s : List (Val Y108)) K => bif badA x then some ((noneC d, ())) else bif hasVar x then chk (s.length + [x].length ≤ 1048576) (K (s ++ [x])) else K s) 0 l s K :=
  loop_fold (xs := l) (F := fun n i s => m230_l3 N d l l.length 0 K n i s) h.2.1 (fun n i s hi => by
    obtain ⟨ha, hlen⟩ := h.2.2 _ (List.getElem_mem hi)
    have h4 := (atom_in ha).1
    have hd := h.1
    rw [m230_l3, bif_dec (by omega), chk_pos (by omega), getD_atI hi, chk_pos (show hasVar_pre _ from ha)]
    rw [chk_pos (show noneC_pre d from ⟨hd.1, by omega⟩), chk_pos (show idA_pre _ from by unfold idA_pre; omega)]
    unfold badA
    cases hv : hasVar l[i] with
    | true => simp only [Bool.not_true, cond_false, Bool.false_and, cond_true]; try rfl
    | false =>
      by_cases c1 : (0 : Int) < l[i].2.1
      · simp only [Bool.not_false, cond_true, c1, decide_true, Bool.true_or, Bool.and_self]; try rfl
      · by_cases c2 : (l[i].2.1 : Int) = 0
        · cases hs : l[i].2.2 <;> simp only [Bool.not_false, cond_true, c1, c2, decide_true, decide_false, Bool.false_or, Bool.and_true, Bool.and_false, cond_false, Bool.true_and] <;> (try rfl)
        · simp only [Bool.not_false, cond_true, c1, c2, decide_false, Bool.false_or, Bool.and_false, Bool.false_and, cond_false]) (fun n i s hi => by rw [m230_l3, bif_decN (by omega)]) n s hn
theorem t230b (N : Nat) (d : Int) (S : List (Val Y108)) (hs : List (Val (hd Y108))) (K : List (Val (hd Y108)) → Option (Vals [i33])) (hp : Good Y108 hs S) (hSl : S.length ≤ 1048576) (hSm : ∀ a ∈ S, okA a ∧ (List.length (α := Int) a.1 : Int) = d) (n : Nat) (hn : hs.length < n) (s : List (Val (hd Y108))) : m230_l13 N hs.length hs S 0 hs d K n 0 s = foldK (fun j (x : Val (hd Y108)) (s : List (Val (hd Y108))) K => bif keepB S j then K s else chk (s.length + [x].length ≤ 1048576) (K (s ++ [x]))) 0 hs s K :=
  have hl2 : hs.length = S.length := hp.1
  loop_fold (xs := hs) (F := fun n i s => m230_l13 N hs.length hs S 0 hs d K n i s) (by omega) (fun n i s hi => by
    have h1 : i < S.length := by omega
    have e1 : (i : Int).toNat = i := rfl
    rw [m230_l13, bif_dec (by omega), chk_pos (by omega), e1, chk_pos hi]
    rw [wrapN hi (by omega)]
    have hg : ∀ j, j < S.length → lk Y108 hs S (hs.getD j (dflt (hd Y108))) = S.getD j (dflt Y108) := fun j hj => lk_getD hp hj
    have hm : ∀ j, j < hs.length → hs.getD j (dflt (hd Y108)) ∈ hs := fun j hj => by rw [getD_at hj]; exact List.getElem_mem _
    have hv : ∀ j, j < S.length → S.getD j (dflt Y108) ∈ S := fun j hj => by rw [getD_at hj]; exact List.getElem_mem _
    by_cases h2 : i + 1 < hs.length
    · have e2 : ((i + 1 : Nat) : Int).toNat = i + 1 := rfl
      have m1 := hSm _ (hv i h1)
      have m2 := hSm _ (hv (i + 1) (by omega))
      rw [bif_dec (by omega), e2, chk_pos (by omega), chk_pos h2, hg i h1, hg (i + 1) (by omega), chk_pos ⟨hp.2.1, ⟨hm i hi, hm (i + 1) h2⟩, m1.1, m2.1, by have := m1.2; have := m2.2; omega⟩]
      have e3 : keepB S i = decide ((wayV (S.getD i (dflt Y108)) (S.getD (i + 1) (dflt Y108))) = 0) := by
        unfold keepB
        rw [show decide (i + 1 < S.length) = true by simp; omega, Bool.true_and]
        rfl
      rw [e3, getD_at hi]
    · rw [bif_decN (by omega)]
      have e3 : keepB S i = false := by
        unfold keepB
        rw [show decide (i + 1 < S.length) = false by simp; omega, Bool.false_and]
      rw [e3, getD_at hi]
      rfl) (fun n i s hi => by rw [m230_l13, bif_decN (by omega)]) n s hn
theorem e230 (d : Int) (l : List (Val Y108)) (h : nrmV_pre d l) : ∃ N, m230 N d l = some (nrmV d l, ()) := ⟨l.length + 1, by
  have h0 := h
  obtain ⟨hdd, hl, hok⟩ := h
  rw [m230, t230a _ _ _ _ h0 _ (Nat.lt_succ_self _)]
  refine (nrm_fold l 0 [] (by simpa using hl)).trans ?_
  rw [nrmV]
  cases hb : l.any badA with
  | true => rfl
  | false =>
    simp only [cond_false, List.nil_append]
    generalize hK : l.filter hasVar = K
    have hKl : K.length ≤ l.length := by rw [← hK]; exact List.length_filter_le _ _
    have hKm : ∀ a ∈ K, (okA a ∧ (List.length (α := Int) a.1 : Int) = d) ∧ hasVar a = true := fun a ha => by
      rw [← hK] at ha
      exact ⟨hok a (List.mem_filter.1 ha).1, (List.mem_filter.1 ha).2⟩
    rw [chk_pos (show gs288.pre K from srt_pre (by omega) (fun a ha => (hKm a ha).1) fun a ha => (hKm a ha).2)]
    generalize hS : srtV K = S
    have hperm : S.Perm K := by rw [← hS]; exact srtA_perm K
    have hSm : ∀ a ∈ S, okA a ∧ (List.length (α := Int) a.1 : Int) = d := fun a ha => (hKm a (hperm.mem_iff.1 ha)).1
    have hSl : S.length = K.length := hperm.length_eq
    obtain ⟨hs0, g0⟩ := good_ex Y108 S
    refine allG_eq ⟨([], hs0), g0⟩ fun p hp => ?_
    obtain ⟨F, hs⟩ := p
    have hp : Good Y108 hs S := hp
    have hl2 : hs.length = S.length := hp.1
    dsimp only
    rw [t230b _ d S hs _ hp (by omega) hSm _ (by omega)]
    refine (keep_fold (d := dflt (hd Y108)) hs.length 0 hs [] (by omega) (by omega) (by simp; omega)).trans ?_
    have e : (List.range' 0 hs.length).filter (fun i => !keepB S i) = keepV S := by
      rw [hl2]; unfold keepV keepS; rw [List.range_eq_range']
    rw [e, List.nil_append, chk_pos ⟨rfl, keepS_nodup S, fun i hi => keepS_lt hi, hp.2.1, hl2⟩]
    have := keep_eq (xs := K) fun a ha => okA_low (hKm a ha).1.1 (hKm a ha).2
    rw [show srtA K = S from hS] at this
    exact congrArg (fun x => some ((d, x), ())) this⟩
theorem s230 : Sound Tryz.prog 230 g230 := sound_run (tt := tt) (Γ := Γ230) hT (ok_cons s213 (ok_cons s236 (ok_cons s287 (ok_cons s290 ok_nil)))) hm (fn := Tryz.f230) Tryz.func230 (c := Tryz.f230.body.getD .skip) (by kernel_rfl) (by kernel_rfl) fun x hx => by
  obtain ⟨N, h⟩ := e230 x.1 x.2.1 hx
  exact ⟨T230 N, p230, ownSem_ok (sr_cons sr288 sr_nil), tb230 N, (run230 N x.1 x.2.1).trans h⟩
end Go.T
