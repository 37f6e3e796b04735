/- Differences of regions: what the functions compute. -/
import Derived.Test.YthefcjjgchekiaaGreatE12
set_option linter.unusedSimpArgs false
set_option linter.unusedVariables false
namespace Go.T
open Go Go.Proofs
set_option maxHeartbeats 4000000
set_option maxRecDepth 100000
theorem qRe {r : Val Y50} (h1 : 0 ≤ (r.1 : Int) ∧ (r.1 : Int) ≤ 4) (h2 : List.length (α := Val Y33) r.2 ≤ 12) (h3 : ∀ c ∈ (r.2 : List (Val Y33)), qz c = true ∧ (c.1 : Int) = (r.1 : Int)) : qV r = true := by
  unfold qV
  simp only [Bool.and_eq_true, decide_eq_true_eq]
  refine ⟨⟨h1, by omega⟩, ?_⟩
  rw [List.all_eq_true]
  intro a ha
  obtain ⟨g1, g2⟩ := h3 a ha
  simp only [Bool.and_eq_true, decide_eq_true_eq]
  exact ⟨g1, g2⟩
def okR (d : Int) (r : Val Y50) : Prop := qV r = true ∧ (r.1 : Int) = d
theorem qUh {d : Int} {r : Val Y50} (h : okR d r) : okR d ((r.1, []) : Val Y50) :=
  ⟨qRe (qb3 h.1).1 (Nat.zero_le _) (fun c hc => by cases hc), h.2⟩
theorem qTF {d : Int} {r : Val Y50} {c : Val Y33} (h : okR d r) (hc : (c.1 : Int) = d) : okR d (q4 r c).1 := by
  have hm := @qCJ c
  unfold q4
  cases h2 : (qH c).2 with
  | false => exact h
  | true =>
    cases qbJ (qH c).1 with
    | true => exact h
    | false =>
      simp only [cond_true, cond_false]
      obtain ⟨r1, r2, r3⟩ := qb3 h.1
      by_cases hl : (12 : Int) ≤ (List.length (α := Val Y33) r.2 : Int)
      · rw [decide_eq_true hl]; exact h
      · rw [decide_eq_false hl]
        refine ⟨qRe r1 ?_ ?_, h.2⟩
        · refine Nat.le_trans (Nat.le_of_eq (List.length_append ..)) ?_
          show List.length (α := Val Y33) r.2 + 1 ≤ 12
          omega
        · intro x hx
          rcases List.mem_append.1 (show x ∈ (r.2 : List (Val Y33)) ++ [(qH c).1] from hx) with hx | hx
          · exact r3 x hx
          · obtain rfl := List.mem_singleton.1 hx
            obtain ⟨_, g1, _, g3⟩ := hm h2
            exact ⟨g1, g3.trans (hc.trans h.2.symm)⟩
theorem qUO {d : Int} : ∀ (cs : List (Val Y33)) (r : Val Y50), okR d r → (∀ c ∈ cs, (c.1 : Int) = d) → (qaW idF cs r).2 = true → okR d (qaW idF cs r).1
  | [], r, h, _, _ => h
  | c :: cs, r, h, hc, h2 => by
    have hA := qTF h (hc c (by simp))
    change (bif (q4 r c).2 then qaW idF cs (q4 r c).1 else qaR).2 = true at h2
    show okR d (bif (q4 r c).2 then qaW idF cs (q4 r c).1 else qaR).1
    cases ha : (q4 r c).2 with
    | false => rw [ha] at h2; exact absurd h2 (by simp)
    | true => rw [ha] at h2; exact qUO cs _ hA (fun x hx => hc x (by simp [hx])) h2
theorem qIe {r : Val Y50} (h2 : (qap r).2 = true) : qV r = true ∧ okR r.1 (qap r).1 := by
  unfold qap at h2 ⊢
  cases h : qV r with
  | false => rw [h] at h2; exact absurd h2 (by simp)
  | true =>
    rw [h] at h2
    exact ⟨rfl, qUO r.2 (r.1, []) (qUh ⟨h, rfl⟩) (fun c hc => ((qb3 h).2.2 c hc).2) h2⟩
theorem qUA {d : Int} (l : List (Val qa)) {c : Val Y33} (hc : (c.1 : Int) = d) : ∀ (n k : Nat) (r : Val Y50), okR d r → (qa6 d l c n k r).2 = true → okR d (qa6 d l c n k r).1
  | 0, _, _, h, _ => h
  | n + 1, k, r, h, h2 => by
    simp only [qa6] at h2 ⊢
    have hm := @qTq c (qbr d l k)
    generalize qO c (qbr d l k) = m at hm h2 ⊢
    cases hm2 : m.2 with
    | false => rw [hm2] at h2; exact absurd h2 (by simp)
    | true =>
      rw [hm2] at h2
      have hA := qTF h ((hm hm2).2.2.trans hc)
      cases ha : (q4 r m.1).2 with
      | false => rw [ha] at h2; exact absurd h2 (by simp)
      | true => rw [ha] at h2; exact qUA l hc n (k + 1) _ hA h2
theorem qUL {d : Int} (l : List (Val qa)) : ∀ (cs : List (Val Y33)) (r : Val Y50), okR d r → (∀ c ∈ cs, (c.1 : Int) = d) → (qbo d l cs r).2 = true → okR d (qbo d l cs r).1
  | [], _, h, _, _ => h
  | c :: cs, r, h, hc, h2 => by
    simp only [qbo] at h2 ⊢
    have hK := qUA l (hc c (by simp)) l.length 0 r h
    cases ha : (qa6 d l c l.length 0 r).2 with
    | false => rw [ha] at h2; exact absurd h2 (by simp)
    | true => rw [ha] at h2; exact qUL l cs _ (hK ha) (fun x hx => hc x (by simp [hx])) h2
theorem qPF {d : Int} {r : Val Y50} {m : Val Y33} (h : okR d r) (h2 : (qa2 r m).2 = true) : okR d (qa2 r m).1 := by
  obtain rfl := h.2
  exact qUL m.2 r.2 (r.1, []) (qUh h) (fun c hc => ((qb3 h.1).2.2 c hc).2) h2
theorem qTZ {d : Int} : ∀ (cs : List (Val Y33)) (r : Val Y50), okR d r → (qaS cs r).2 = true → okR d (qaS cs r).1
  | [], _, h, _ => h
  | c :: cs, r, h, h2 => by
    simp only [qaS] at h2 ⊢
    cases hm : (qH c).2 with
    | false => rw [hm] at h2; exact absurd h2 (by simp)
    | true =>
      rw [hm] at h2
      have hL := @qPF d r (qH c).1 h
      cases hl : (qa2 r (qH c).1).2 with
      | false => rw [hl] at h2; exact absurd h2 (by simp)
      | true => rw [hl] at h2; exact qTZ cs _ (hL hl) h2
theorem qQJ {a b : Val Y50} (h2 : (qx a b).2 = true) : okR a.1 (qx a b).1 := by
  unfold qx at h2 ⊢
  cases hb : (qV a && qV b && decide ((a.1 : Int) = (b.1 : Int))) with
  | false => rw [hb] at h2; exact absurd h2 (by simp)
  | true =>
    rw [hb] at h2
    cases hn : (qap a).2 with
    | false => rw [hn] at h2; exact absurd h2 (by simp)
    | true => rw [hn] at h2; exact qTZ b.2 _ (qIe hn).2 h2
theorem qI1 : ∀ (cs : List (Val Y33)) (r : Val Y50), (bif (qaS cs r).2 then some ((qaS cs r).1, true, ()) else some (((0 : Int), ([] : List (Val Y33))), false, ()) : Option (qb [i50, i4])) = some ((qaS cs r).1, (qaS cs r).2, ())
  | [], r => rfl
  | c :: cs, r => by
    simp only [qaS]
    cases (qH c).2 with
    | false => rfl
    | true =>
      cases (qa2 r (qH c).1).2 with
      | false => rfl
      | true => exact qI1 cs _
theorem t45 (N : Nat) (d : Int) (xs : List (Val Y33)) (v5 : Int) (K : Int → List (Val Y33) → Option (qb [i50, i4])) (hx : xs.length ≤ 12) (hd : ∀ c ∈ xs, (c.1 : Int) = d) : ∀ (k i : Nat), i + k = xs.length → ∀ n, k < n → ∀ (r : Val Y50), okR d r →
    qgc N xs xs.length v5 K n (i : Int) r.1 r.2 = bif (qaS (xs.drop i) r).2 then K (qaS (xs.drop i) r).1.1 (qaS (xs.drop i) r).1.2 else some (((0 : Int), []), false, ())
  | 0, i, hi, n + 1, _, r, _ => by
    rw [qgc, ql (by omega), List.drop_eq_nil_of_le (by omega)]
    rfl
  | k + 1, i, hi, n + 1, hn, r, hr => by
    have h1 : i < xs.length := by omega
    have hm := @qCJ xs[i]
    rw [qgc, qn (by omega), qe (by omega), qG h1, qbD h1 (by omega), qb4 h1]
    simp only [qaS]
    cases h2 : (qH xs[i]).2 with
    | false => rfl
    | true =>
      obtain ⟨_, g1, _, g3⟩ := hm h2
      simp only [Bool.not_true, cond_false, cond_true]
      rw [qe (show qut r (qH xs[i]).1 from ⟨hr.1, g1, g3.trans ((hd _ (List.getElem_mem h1)).trans hr.2.symm)⟩)]
      show (bif !(qa2 r (qH xs[i]).1).2 then _ else qgc N xs xs.length v5 K n _ (qa2 r (qH xs[i]).1).1.1 (qa2 r (qH xs[i]).1).1.2) = _
      have hL := @qPF d r (qH xs[i]).1 hr
      cases h3 : (qa2 r (qH xs[i]).1).2 with
      | false => rfl
      | true =>
        simp only [Bool.not_true, cond_false, cond_true]
        exact t45 N d xs v5 K hx hd k (i + 1) (by omega) n (by omega) _ (hL h3)
theorem e45 (a b : Val Y50) : ∃ N, m45 N a b = some ((qx a b).1, (qx a b).2, ()) := ⟨30, by
  rw [m45]
  unfold qx
  cases ha : qV a with
  | false => rfl
  | true =>
    cases hb : qV b with
    | false => rfl
    | true =>
      simp only [Bool.not_true, cond_false, Bool.true_and]
      by_cases hd : (a.1 : Int) = (b.1 : Int)
      · rw [decide_eq_true hd]
        simp only [Bool.not_true, cond_false, cond_true]
        cases hn : (qap a).2 with
        | false => rfl
        | true =>
          simp only [Bool.not_true, cond_false, cond_true]
          obtain ⟨_, hb2, hb3⟩ := qb3 hb
          exact (t45 30 a.1 b.2 0 _ hb2 (fun c hc => ((hb3 c hc).2).trans hd.symm) (List.length (α := Val Y33) b.2) 0 (by omega) 30 (by omega) (qap a).1 (qIe hn).2).trans (qI1 b.2 (qap a).1)
      · rw [decide_eq_false hd]
        rfl⟩
theorem s45 : Sound Tryz.prog 45 g45 := qt (tt := tt) (Γ := Γ45) hT (qg qyB (qg q5l (qg qQ8 (qg q0w qo)))) hm (fn := Tryz.f45) Tryz.func45 (c := Tryz.f45.body.getD .skip) (by kernel_rfl) (by kernel_rfl) fun x hx => by
  obtain ⟨N, h⟩ := e45 x.1 x.2.1
  exact ⟨T45 N, p45, qw _, zet N, (zbR N x.1 x.2.1).trans h⟩
theorem q3Z {c : Val Y33} (h : qz c = true) (r : Val Y50) : qcB r c = bif (qH c).2 then qa2 r (qH c).1 else qaR := by
  have e : qH c = qW (qr c.1 c.2) := by unfold qH; rw [h]; rfl
  unfold qcB
  rw [e]
theorem t44 (N : Nat) (d v3 : Int) (xs : List (Val Y33)) (v5 : Int) (K : Int → List (Val Y33) → Option (qb [i50, i4])) (hx : xs.length ≤ 12) (hd : ∀ c ∈ xs, qz c = true ∧ (c.1 : Int) = d) : ∀ (k i : Nat), i + k = xs.length → ∀ n, k < n → ∀ (r : Val Y50), okR d r →
    qgu N v3 xs v5 K n (i : Int) r.1 r.2 = bif (qaS (xs.drop i) r).2 then K (qaS (xs.drop i) r).1.1 (qaS (xs.drop i) r).1.2 else some (((0 : Int), []), false, ())
  | 0, i, hi, n + 1, _, r, _ => by
    rw [qgu, ql (by omega), List.drop_eq_nil_of_le (by omega)]
    rfl
  | k + 1, i, hi, n + 1, hn, r, hr => by
    have h1 : i < xs.length := by omega
    obtain ⟨hc, hcd⟩ := hd _ (List.getElem_mem h1)
    rw [qgu, qn (by omega), qe (by omega), qG h1, qbD h1 (by omega), qb4 h1]
    rw [qe (show qvz r xs[i] from ⟨hr.1, hc, hcd.trans hr.2.symm⟩)]
    simp only [qaS]
    show (bif !(qcB r xs[i]).2 then _ else qgu N v3 xs v5 K n _ (qcB r xs[i]).1.1 (qcB r xs[i]).1.2) = _
    rw [q3Z hc]
    cases h2 : (qH xs[i]).2 with
    | false => rfl
    | true =>
      simp only [cond_true]
      have hL := @qPF d r (qH xs[i]).1 hr
      cases h3 : (qa2 r (qH xs[i]).1).2 with
      | false => rfl
      | true =>
        simp only [Bool.not_true, cond_false, cond_true]
        exact t44 N d v3 xs v5 K hx hd k (i + 1) (by omega) n (by omega) _ (hL h3)
theorem e44 (a b : Val Y50) (h : qdh a b) : ∃ N, m44 N a b = some ((qx a b).1, (qx a b).2, ()) := ⟨30, by
  rw [m44, qe (show qwJ a from h.1)]
  unfold qx
  cases hn : (qap a).2 with
  | false =>
    cases qV a && qV b && decide ((a.1 : Int) = (b.1 : Int)) <;> rfl
  | true =>
    obtain ⟨ha, hR⟩ := qIe hn
    simp only [Bool.not_true, cond_false, cond_true]
    rw [qe (show qbH b from h.2), ha]
    cases hb : qV b with
    | false => rfl
    | true =>
      simp only [Bool.not_true, cond_false, Bool.true_and]
      by_cases hd : (a.1 : Int) = (b.1 : Int)
      · rw [decide_eq_true hd]
        simp only [Bool.not_true, cond_false, cond_true]
        obtain ⟨_, hb2, hb3⟩ := qb3 hb
        exact (t44 30 a.1 b.1 b.2 0 _ hb2 (fun c hc => ⟨(hb3 c hc).1, ((hb3 c hc).2).trans hd.symm⟩) (List.length (α := Val Y33) b.2) 0 (by omega) 30 (by omega) (qap a).1 hR).trans (qI1 b.2 (qap a).1)
      · rw [decide_eq_false hd]
        rfl⟩
theorem s44 : Sound Tryz.prog 44 g44 := qt (tt := tt) (Γ := Γ44) hT (qg qzr (qg q1W (qg zbN qo))) hm (fn := Tryz.f44) Tryz.func44 (c := Tryz.f44.body.getD .skip) (by kernel_rfl) (by kernel_rfl) fun x hx => by
  obtain ⟨N, h⟩ := e44 x.1 x.2.1 hx
  exact ⟨T44 N, p44, qw _, zfb N, (q1Y N x.1 x.2.1).trans h⟩
theorem zb5 (a b : Val Y50) : ∃ N, qwN N a b = some ((qau a b).1, (qau a b).2, ()) := ⟨0, by
  rw [qwN]
  unfold qau
  cases (qx b a).2 <;> rfl⟩
theorem qZL : Sound Tryz.prog 130 qwn := qt (tt := tt) (Γ := qKq) hT (qg s45 qo) hm (fn := Tryz.f130) Tryz.func130 (c := Tryz.f130.body.getD .skip) (by kernel_rfl) (by kernel_rfl) fun x hx => by
  obtain ⟨N, h⟩ := zb5 x.1 x.2.1
  exact ⟨qes N, q6r, qw _, qWg N, (q7I N x.1 x.2.1).trans h⟩
theorem q3n (a b : Val Y50) (h : qkq a b) : ∃ N, qvp N a b = some ((qau a b).1, (qau a b).2, ()) := ⟨0, by
  rw [qvp, qe (show qdh b a from h)]
  unfold qau
  cases (qx b a).2 <;> rfl⟩
theorem qXv : Sound Tryz.prog 129 qvC := qt (tt := tt) (Γ := qG7) hT (qg s44 qo) hm (fn := Tryz.f129) Tryz.func129 (c := Tryz.f129.body.getD .skip) (by kernel_rfl) (by kernel_rfl) fun x hx => by
  obtain ⟨N, h⟩ := q3n x.1 x.2.1 hx
  exact ⟨qec N, zfw, qw _, q2D N, (q1f N x.1 x.2.1).trans h⟩
theorem e39 (a b : Val Y50) : ∃ N, m39 N a b = some ((qb7 a b).1, (qb7 a b).2, ()) := ⟨0, by
  rw [m39]
  unfold qb7
  cases (qau a b).2 <;> cases (qau b a).2 <;> cases (qau a b).1 <;> rfl⟩
theorem s39 : Sound Tryz.prog 39 g39 := qt (tt := tt) (Γ := Γ39) hT (qg qZL qo) hm (fn := Tryz.f39) Tryz.func39 (c := Tryz.f39.body.getD .skip) (by kernel_rfl) (by kernel_rfl) fun x hx => by
  obtain ⟨N, h⟩ := e39 x.1 x.2.1
  exact ⟨T39 N, p39, qw _, zcK N, (q9J N x.1 x.2.1).trans h⟩
theorem e38 (a b : Val Y50) (h : qvH a b) : ∃ N, m38 N a b = some ((qb7 a b).1, (qb7 a b).2, ()) := ⟨0, by
  rw [m38, qe (show qkq a b from ⟨h.2, h.1⟩), qe (show qkq b a from h)]
  unfold qb7
  cases (qau a b).2 <;> cases (qau b a).2 <;> cases (qau a b).1 <;> rfl⟩
theorem s38 : Sound Tryz.prog 38 g38 := qt (tt := tt) (Γ := Γ38) hT (qg qXv qo) hm (fn := Tryz.f38) Tryz.func38 (c := Tryz.f38.body.getD .skip) (by kernel_rfl) (by kernel_rfl) fun x hx => by
  obtain ⟨N, h⟩ := e38 x.1 x.2.1 hx
  exact ⟨T38 N, p38, qw _, q2s N, (q85 N x.1 x.2.1).trans h⟩
end Go.T
