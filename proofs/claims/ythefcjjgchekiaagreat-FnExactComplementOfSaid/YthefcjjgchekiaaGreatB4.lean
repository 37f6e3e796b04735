/- Normal cells: what the program's normalOf computes. -/
import Derived.Test.YthefcjjgchekiaaGreatB3
set_option linter.unusedSimpArgs false
set_option linter.unusedVariables false
namespace Go.T
open Go Go.Proofs
set_option maxHeartbeats 4000000
set_option maxRecDepth 100000
def qeT (xss : List (Val (.slice 108 qa))) : List (Val qa) := List.flatten (α := Val qa) xss
def qwq (xss : List (Val (.slice 108 qa))) : Prop := xss.length ≤ 1048576 ∧ (qeT xss).length ≤ 1048576
theorem qFm {α ρ : Type} {r : Option ρ} {k : Int → Option ρ} : ∀ (xs : List (List α)) (i : Nat) (s : Nat), s + xs.flatten.length ≤ 1048576 →
    qS (fun _ (x : List α) (s : Int) K => bif decide (IntKind.i64.wrap (s + (x.length : Int)) < 0) then r else K (IntKind.i64.wrap (s + (x.length : Int)))) i xs (s : Int) k = k ((s + xs.flatten.length : Nat) : Int)
  | [], _, s, _ => by rw [qS]; simp
  | x :: xs, i, s, h => by
    simp only [List.flatten_cons, List.length_append] at h ⊢
    have e : IntKind.i64.wrap ((s : Int) + (x.length : Int)) = ((s + x.length : Nat) : Int) := by rw [qaH (by omega) (by omega)]; omega
    rw [qS, e, ql (by omega)]
    dsimp only
    rw [qFm xs (i + 1) (s + x.length) (by omega), Nat.add_assoc]
theorem qFi {α ρ : Type} {k : List α → Option ρ} : ∀ (xs : List (List α)) (i : Nat) (s : List α), s.length + xs.flatten.length ≤ 1048576 →
    qS (fun _ (x : List α) (s : List α) K => chk (s.length + x.length ≤ 1048576) (K (s ++ x))) i xs s k = k (s ++ xs.flatten)
  | [], _, s, _ => by rw [qS]; simp
  | x :: xs, i, s, h => by
    simp only [List.flatten_cons, List.length_append] at h ⊢
    rw [qS, qe (by omega)]
    dsimp only
    rw [qFi xs (i + 1) (s ++ x) (by rw [List.length_append]; omega), List.append_assoc]
def quK : G := { ps := [qyW], rs := [i31], dp := false, pre := fun x => qwq x.1, fn := fun x => (qeT x.1, ()) }
theorem q4B (N : Nat) (xss : List (Val (.slice 108 qa))) (K : Int → Option (qb [i31])) (hl : xss.length ≤ 1048576) (n : Nat) (hn : xss.length < n) (s : Int) : qgo N xss xss xss.length K n s 0 = qS (fun _ (x : List (Val qa)) (s : Int) K => bif decide (IntKind.i64.wrap (s + (x.length : Int)) < 0) then none else K (IntKind.i64.wrap (s + (x.length : Int)))) 0 xss s K :=
  qax (xs := xss) (F := fun n i s => qgo N xss xss xss.length K n s i) hl (fun n i s hi => by rw [qgo, qn (by omega), qe (by omega), qG hi]) (fun n i s hi => by rw [qgo, ql (by omega)]) n s hn
theorem zag (N : Nat) (xss : List (Val (.slice 108 qa))) (K : List (Val qa) → Option (qb [i31])) (hl : xss.length ≤ 1048576) (n : Nat) (hn : xss.length < n) (s : List (Val qa)) : qfh N xss xss.length K n 0 s = qS (fun _ (x : List (Val qa)) (s : List (Val qa)) K => chk (s.length + x.length ≤ 1048576) (K (s ++ x))) 0 xss s K :=
  qax (xs := xss) (F := fun n i s => qfh N xss xss.length K n i s) hl (fun n i s hi => by rw [qfh, qn (by omega), qe (by omega), qG hi]) (fun n i s hi => by rw [qfh, ql (by omega)]) n s hn
theorem q1b (xss : List (Val (.slice 108 qa))) (h : qwq xss) : ∃ N, qza N xss = some (qeT xss, ()) := ⟨xss.length + 1, by
  obtain ⟨hl, ht⟩ := h
  have ht' : (List.flatten (α := Val qa) xss).length ≤ 1048576 := ht
  rw [qza, q4B _ _ _ hl _ (Nat.lt_succ_self _)]
  refine (qFm (α := Val qa) xss 0 0 (by simpa using ht')).trans ?_
  rw [qe (by omega), zag _ _ _ hl _ (Nat.lt_succ_self _)]
  exact (qFi (α := Val qa) xss 0 [] (by simpa using ht')).trans rfl⟩
theorem q2K : Sound Tryz.prog 219 quK := qt (tt := tt) (Γ := qgt) hT qo hm (fn := Tryz.f219) Tryz.func219 (c := Tryz.f219.body.getD .skip) (by kernel_rfl) (by kernel_rfl) fun x hx => by
  obtain ⟨N, h⟩ := q1b x.1 hx
  exact ⟨qbB N, zdU, qBm (qOX q6c qGY), zdM N, (zbj N x.1).trans h⟩
def qci (a : Val qa) : Bool := !qab a && (decide ((0 : Int) < a.2.1) || (decide ((a.2.1 : Int) = 0) && a.2.2))
def qr (d : Int) (l : List (Val qa)) : Val Y33 := bif l.any qci then qaQ d else (d, qfE (l.filter qab))
def okL (d : Int) (l : List (Val qa)) : Prop := (0 ≤ d ∧ d ≤ 4) ∧ l.length ≤ 1048576 ∧ ∀ a ∈ l, okA a ∧ (List.length (α := Int) a.1 : Int) = d
def qaX (d : Int) (l : List (Val qa)) : Prop := okL d l
theorem qGo {ρ : Type} {r : Option ρ} {k : List (Val qa) → Option ρ} : ∀ (xs : List (Val qa)) (i : Nat) (s : List (Val qa)), s.length + xs.length ≤ 1048576 →
    qS (fun _ (x : Val qa) (s : List (Val qa)) K => bif qci x then r else bif qab x then chk (s.length + [x].length ≤ 1048576) (K (s ++ [x])) else K s) i xs s k = bif xs.any qci then r else k (s ++ xs.filter qab)
  | [], _, s, _ => by rw [qS]; simp
  | x :: xs, i, s, h => by
    simp only [List.length_cons] at h
    rw [qS]
    cases hb : qci x with
    | true => simp [hb]
    | false =>
      cases hv : qab x with
      | true => simp only [cond_false, cond_true]; rw [qe (by simp; omega), qGo xs _ _ (by simp; omega)]; simp [hb, hv]
      | false => simp only [cond_false]; rw [qGo xs _ _ (by omega)]; simp [hb, hv]
theorem qgw {a b : Val qa} {d : Int} (ha : okA a ∧ (List.length (α := Int) a.1 : Int) = d) (hb : okA b ∧ (List.length (α := Int) b.1 : Int) = d) : qhg a b = qaI (atm a) (atm b) := by
  have h1 : qD a = true := ha.1
  have h2 : qD b = true := hb.1
  have h3 : List.length (α := Int) a.1 = List.length (α := Int) b.1 := by have := ha.2; have := hb.2; omega
  simp [qhg, h1, h2, h3]
theorem q6j {d : Int} {l : List (Val qa)} (hl : l.length ≤ 1048576) (h : ∀ a ∈ l, okA a ∧ (List.length (α := Int) a.1 : Int) = d) (hv : ∀ a ∈ l, qab a = true) : qLb (fun _ _ => True) qhg qaj l := by
  refine ⟨hl, fun _ _ _ _ => trivial, fun x hx => ?_, fun x hx y hy z hz h1 h2 => ?_, fun x hx y hy z hz h1 h2 => ?_, fun ys hp ho => ?_⟩
  · rw [qgw (h x hx) (h x hx), qbu.self]; omega
  · rw [qgw (h x hx) (h y hy)] at h1; rw [qgw (h y hy) (h z hz)] at h2; rw [qgw (h x hx) (h z hz)]
    exact qbu.lt_le h1 (Int.le_of_lt h2)
  · rw [qgw (h x hx) (h y hy)] at h1; rw [qgw (h y hy) (h z hz)] at h2; rw [qgw (h x hx) (h z hz)]
    have a1 := qbu.anti (atm x) (atm y); have a2 := qbu.anti (atm y) (atm z); have a3 := qbu.anti (atm x) (atm z)
    have := qbu.tr (atm z) (atm y) (atm x) (by omega) (by omega)
    omega
  · refine q56 (fun a ha => qR5 (h a ha).1 (hv a ha)) hp (ho.imp_of_mem fun {a b} ha hb hab => ?_)
    have ha' := hp.mem_iff.1 ha
    have hb' := hp.mem_iff.1 hb
    rwa [qgw (h b hb') (h a ha')] at hab
theorem qC0 {ρ α : Type} {p : Nat → Bool} {k : List α → Option ρ} {d : α} : ∀ (m i : Nat) (hs : List α) (s : List α), hs.length - i = m → i ≤ hs.length → s.length + m ≤ 1048576 →
    qS (fun j (x : α) (s : List α) K => bif p j then K s else chk (s.length + [x].length ≤ 1048576) (K (s ++ [x]))) i (hs.drop i) s k = k (s ++ ((List.range' i m).filter fun i => !p i).map fun i => hs.getD i d)
  | 0, i, hs, s, h, hi, _ => by rw [List.drop_eq_nil_of_le (by omega), qS]; simp
  | m + 1, i, hs, s, h, hi, hs' => by
    have hlt : i < hs.length := by omega
    rw [qb4 hlt, qS, List.range'_succ]
    cases hp : p i with
    | true => simp only [cond_true]; rw [qC0 (d := d) m (i + 1) hs s (by omega) (by omega) (by omega)]; simp [hp]
    | false =>
      simp only [cond_false]
      rw [qe (by simp; omega), qC0 (d := d) m (i + 1) hs _ (by omega) (by omega) (by simp; omega)]
      simp [hp, List.getD, hlt]
def qdd : G := { ps := [i3, i31], rs := [i33], dp := true, pre := fun x => qaX x.1 x.2.1, fn := fun x => (qr x.1 x.2.1, ()) }
theorem q7K (N : Nat) (d : Int) (l : List (Val qa)) (K : List (Val qa) → Option (qb [i33])) (h : okL d l) (n : Nat) (hn : l.length < n) (s : List (Val qa)) : qd6 N d l l.length 0 K n 0 s = qS (fun _ (x : Val qa) (s : List (Val qa)) K => bif qci x then some ((qaQ d, ())) else bif qab x then chk (s.length + [x].length ≤ 1048576) (K (s ++ [x])) else K s) 0 l s K :=
  qax (xs := l) (F := fun n i s => qd6 N d l l.length 0 K n i s) h.2.1 (fun n i s hi => by
    obtain ⟨ha, hlen⟩ := h.2.2 _ (List.getElem_mem hi)
    have h4 := (qa5 ha).1
    have hd := h.1
    rw [qd6, qn (by omega), qe (by omega), qG hi, qe (show qkV _ from ha)]
    rw [qe (show qcV d from ⟨hd.1, by omega⟩), qe (show qba _ from by unfold qba; omega)]
    unfold qci
    cases hv : qab l[i] with
    | true => simp only [Bool.not_true, cond_false, Bool.false_and, cond_true]; try rfl
    | false =>
      by_cases c1 : (0 : Int) < l[i].2.1
      · simp only [Bool.not_false, cond_true, c1, decide_true, Bool.true_or, Bool.and_self]; try rfl
      · by_cases c2 : (l[i].2.1 : Int) = 0
        · cases hs : l[i].2.2 <;> simp only [Bool.not_false, cond_true, c1, c2, decide_true, decide_false, Bool.false_or, Bool.and_true, Bool.and_false, cond_false, Bool.true_and] <;> (try rfl)
        · simp only [Bool.not_false, cond_true, c1, c2, decide_false, Bool.false_or, Bool.and_false, Bool.false_and, cond_false]) (fun n i s hi => by rw [qd6, ql (by omega)]) n s hn
theorem q72 (N : Nat) (d : Int) (S : List (Val qa)) (hs : List (Val (hd qa))) (K : List (Val (hd qa)) → Option (qb [i33])) (hp : qc3 qa hs S) (hSl : S.length ≤ 1048576) (hSm : ∀ a ∈ S, okA a ∧ (List.length (α := Int) a.1 : Int) = d) (n : Nat) (hn : hs.length < n) (s : List (Val (hd qa))) : qdt N hs.length hs S 0 hs d K n 0 s = qS (fun j (x : Val (hd qa)) (s : List (Val (hd qa))) K => bif qeJ S j then K s else chk (s.length + [x].length ≤ 1048576) (K (s ++ [x]))) 0 hs s K :=
  have hl2 : hs.length = S.length := hp.1
  qax (xs := hs) (F := fun n i s => qdt N hs.length hs S 0 hs d K n i s) (by omega) (fun n i s hi => by
    have h1 : i < S.length := by omega
    have e1 : (i : Int).toNat = i := rfl
    rw [qdt, qn (by omega), qe (by omega), e1, qe hi]
    rw [qkH hi (by omega)]
    have hg : ∀ j, j < S.length → lk qa hs S (hs.getD j (qc (hd qa))) = S.getD j (qc qa) := fun j hj => qRl hp hj
    have hm : ∀ j, j < hs.length → hs.getD j (qc (hd qa)) ∈ hs := fun j hj => by rw [qdF hj]; exact List.getElem_mem _
    have hv : ∀ j, j < S.length → S.getD j (qc qa) ∈ S := fun j hj => by rw [qdF hj]; exact List.getElem_mem _
    by_cases h2 : i + 1 < hs.length
    · have e2 : ((i + 1 : Nat) : Int).toNat = i + 1 := rfl
      have m1 := hSm _ (hv i h1)
      have m2 := hSm _ (hv (i + 1) (by omega))
      rw [qn (by omega), e2, qe (by omega), qe h2, hg i h1, hg (i + 1) (by omega), qe ⟨hp.2.1, ⟨hm i hi, hm (i + 1) h2⟩, m1.1, m2.1, by have := m1.2; have := m2.2; omega⟩]
      have e3 : qeJ S i = decide ((qa1 (S.getD i (qc qa)) (S.getD (i + 1) (qc qa))) = 0) := by
        unfold qeJ
        rw [show decide (i + 1 < S.length) = true by simp; omega, Bool.true_and]
        rfl
      rw [e3, qdF hi]
    · rw [ql (by omega)]
      have e3 : qeJ S i = false := by
        unfold qeJ
        rw [show decide (i + 1 < S.length) = false by simp; omega, Bool.false_and]
      rw [e3, qdF hi]
      rfl) (fun n i s hi => by rw [qdt, ql (by omega)]) n s hn
theorem zcv (d : Int) (l : List (Val qa)) (h : qaX d l) : ∃ N, qwA N d l = some (qr d l, ()) := ⟨l.length + 1, by
  have h0 := h
  obtain ⟨hdd, hl, hok⟩ := h
  rw [qwA, q7K _ _ _ _ h0 _ (Nat.lt_succ_self _)]
  refine (qGo l 0 [] (by simpa using hl)).trans ?_
  rw [qr]
  cases hb : l.any qci with
  | true => rfl
  | false =>
    simp only [cond_false, List.nil_append]
    generalize hK : l.filter qab = K
    have hKl : K.length ≤ l.length := by rw [← hK]; exact List.length_filter_le _ _
    have hKm : ∀ a ∈ K, (okA a ∧ (List.length (α := Int) a.1 : Int) = d) ∧ qab a = true := fun a ha => by
      rw [← hK] at ha
      exact ⟨hok a (List.mem_filter.1 ha).1, (List.mem_filter.1 ha).2⟩
    rw [qe (show qem.pre K from q6j (by omega) (fun a ha => (hKm a ha).1) fun a ha => (hKm a ha).2)]
    generalize hS : qaj K = S
    have hperm : S.Perm K := by rw [← hS]; exact qx9 K
    have hSm : ∀ a ∈ S, okA a ∧ (List.length (α := Int) a.1 : Int) = d := fun a ha => (hKm a (hperm.mem_iff.1 ha)).1
    have hSl : S.length = K.length := hperm.length_eq
    obtain ⟨hs0, g0⟩ := qSr qa S
    refine qyg ⟨([], hs0), g0⟩ fun p hp => ?_
    obtain ⟨F, hs⟩ := p
    have hp : qc3 qa hs S := hp
    have hl2 : hs.length = S.length := hp.1
    dsimp only
    rw [q72 _ d S hs _ hp (by omega) hSm _ (by omega)]
    refine (qC0 (d := qc (hd qa)) hs.length 0 hs [] (by omega) (by omega) (by simp; omega)).trans ?_
    have e : (List.range' 0 hs.length).filter (fun i => !qeJ S i) = qbY S := by
      rw [hl2]; unfold qbY qgM; rw [List.range_eq_range']
    rw [e, List.nil_append, qe ⟨rfl, q1K S, fun i hi => qze hi, hp.2.1, hl2⟩]
    have := ze4 (xs := K) fun a ha => qR5 (hKm a ha).1.1 (hKm a ha).2
    rw [show qjd K = S from hS] at this
    exact congrArg (fun x => some ((d, x), ())) this⟩
theorem qQs : Sound Tryz.prog 230 qdd := qt (tt := tt) (Γ := qdf) hT (qg qTM (qg ze3 (qg qQC (qg qUC qo)))) hm (fn := Tryz.f230) Tryz.func230 (c := Tryz.f230.body.getD .skip) (by kernel_rfl) (by kernel_rfl) fun x hx => by
  obtain ⟨N, h⟩ := zcv x.1 x.2.1 hx
  exact ⟨qbs N, q4J, qBm (qOX zah qGY), q6Q N, (q2C N x.1 x.2.1).trans h⟩
end Go.T
