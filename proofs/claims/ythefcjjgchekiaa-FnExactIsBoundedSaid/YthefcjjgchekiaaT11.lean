/- T: the library's Grow of a nil slice. -/
import Derived.Test.YthefcjjgchekiaaT10
import Derived.Shelf.Spec.SlicesGrow
import Derived.KernelRfl
set_option linter.unusedSimpArgs false
set_option linter.unusedVariables false
namespace Go.T
open Go Go.Proofs Go.Shelf Go.RowKit Go.Lib

theorem gr_of {P : Program} {ρ : Ren} (L : Lays8.n4 P ρ) {f : FuncId} (hf : ρ.f 4 = f) (hen : Enters P f) {tt : TT} (hT : TTok P tt) {ti : TI} (ht : tt.get (ρ.t 25) = some ti) : SoundGr P f (ρ.t 25) ti.ty := by
  refine ⟨hen, fun n hn w => ?_⟩
  subst hf
  by_cases h0 : n = 0
  · subst h0
    refine Calls.mono (Any8.slices_Grow_room L none 0 0 0 w (by omega) (by omega) (by omega) (by omega)) fun e' w' h => ?_
    obtain ⟨rfl, rfl⟩ := h
    exact ⟨_, rfl, Fr.refl _ _, World.ownsRow_nil _ _ _ _, fun b hb => by simp [Value.ownBlock] at hb⟩
  · obtain ⟨i, z, hi, hs, hz, hzc, hby⟩ := (hT _ _ ht).info
    have hzs : z.cells.size = ti.ty.sz := by
      have := congrArg List.length hzc
      simpa [zvals_len] using this
    refine Calls.mono (Any8.slices_Grow_grow L i z hi hz (by rw [hs]; exact ti.ty.sz_pos) none 0 0 n [] w (by omega) (by omega) (by
      have : (0 + n) * i.bytes ≤ 1048576 * 65536 := Nat.mul_le_mul (by omega) hby
      omega) (by omega) (by simp) (fun _ => rfl) (fun a ha => by simp at ha)) fun e' w' h => ?_
    obtain ⟨rfl, rfl⟩ := h
    have hge := grownCap_ge w (0 + n) 0 (ρ.t 25)
    refine ⟨_, rfl, ⟨rfl, rfl, rfl, by simp, fun b hb _ => ?_, by simp⟩, ⟨by simp, .inr ⟨w.heap.size, _, _, rfl, Nat.zero_le _, heap_alloc_new w.drew _, Nat.zero_le _, grownCap_le_maxLen _ _ _ _ (by unfold maxLen; omega), ?_, by simp⟩⟩, fun b hb => ?_⟩
    · exact heap_alloc_old w.drew _ hb
    · simp only [Array.size_append, size_zeroCells, hzs]
      generalize hcp : grownCap w (0 + n) 0 (ρ.t 25) = cp at hge ⊢
      simp only [List.size_toArray, List.length_nil, Nat.zero_add, Nat.sub_zero]
      rw [← Nat.add_mul]
      congr 1
      omega
    · simp [Value.ownBlock] at hb
      omega
end Go.T
/- Plain: the order of atoms; normal lists of atoms. -/
namespace Go.T

/-- A comparison: whole numbers below, at, above 0. -/
structure Cmp {α : Type} (c : α → α → Int) : Prop where
  anti : ∀ x y, c x y = - c y x
  tr : ∀ x y z, c x y ≤ 0 → c y z ≤ 0 → c x z ≤ 0
namespace Cmp
variable {α : Type} {c d : α → α → Int}
theorem self (h : Cmp c) (x : α) : c x x = 0 := by have := h.anti x x; omega
theorem lt_le (h : Cmp c) {x y z : α} (h1 : c x y < 0) (h2 : c y z ≤ 0) : c x z < 0 := by
  have h3 := h.tr x y z (by omega) h2
  rcases Int.lt_or_eq_of_le h3 with h4 | h4
  · exact h4
  · have h5 := h.anti x z
    have h6 := h.tr y z x h2 (by omega)
    have h7 := h.anti x y
    omega
theorem le_lt (h : Cmp c) {x y z : α} (h1 : c x y ≤ 0) (h2 : c y z < 0) : c x z < 0 := by
  have h3 := h.tr x y z h1 (by omega)
  rcases Int.lt_or_eq_of_le h3 with h4 | h4
  · exact h4
  · have h5 := h.anti x z
    have h6 := h.tr z x y (by omega) h1
    have h7 := h.anti y z
    omega
theorem eq_tr (h : Cmp c) {x y z : α} (h1 : c x y = 0) (h2 : c y z = 0) : c x z = 0 := by
  have h3 := h.tr x y z (by omega) (by omega)
  have h4 := h.anti x y
  have h5 := h.anti y z
  have h6 := h.tr z y x (by omega) (by omega)
  have h7 := h.anti x z
  omega
theorem lex (h : Cmp c) (g : Cmp d) : Cmp fun x y => if c x y = 0 then d x y else c x y := by
  refine ⟨fun x y => ?_, fun x y z h1 h2 => ?_⟩
  · have := h.anti x y
    have := g.anti x y
    split <;> split <;> omega
  · have e1 : c x y ≤ 0 := by split at h1 <;> omega
    have e2 : c y z ≤ 0 := by split at h2 <;> omega
    have e3 := h.tr x y z e1 e2
    split
    · rename_i e4
      have e5 := h.anti x z
      have e6 := h.tr y z x e2 (by omega)
      have e7 := h.anti x y
      have e8 := h.tr z x y (by omega) e1
      have e9 := h.anti y z
      rw [if_pos (by omega)] at h1 h2
      exact g.tr x y z h1 h2
    · exact e3
theorem on {β : Type} (h : Cmp c) (f : β → α) : Cmp fun x y => c (f x) (f y) := ⟨fun _ _ => h.anti _ _, fun _ _ _ => h.tr _ _ _⟩
end Cmp

def lexI : List Int → List Int → Int
  | [], [] => 0
  | [], _ :: _ => -1
  | _ :: _, [] => 1
  | x :: xs, y :: ys => if x < y then -1 else if y < x then 1 else lexI xs ys
theorem lexI_anti : ∀ x y, lexI x y = - lexI y x
  | [], [] => rfl
  | [], _ :: _ => rfl
  | _ :: _, [] => rfl
  | x :: xs, y :: ys => by
    have := lexI_anti xs ys
    simp only [lexI]
    split <;> split <;> (try split) <;> omega
theorem lexI_tr : ∀ x y z, lexI x y ≤ 0 → lexI y z ≤ 0 → lexI x z ≤ 0
  | [], _, [] , _, _ => by simp [lexI]
  | [], _, _ :: _, _, _ => by simp [lexI]
  | _ :: _, [], _, h, _ => by simp [lexI] at h
  | _ :: _, _ :: _, [], _, h => by simp [lexI] at h
  | x :: xs, y :: ys, z :: zs, h1, h2 => by
    simp only [lexI] at *
    have ih := lexI_tr xs ys zs
    by_cases a : x < y
    · by_cases b : y < z
      · rw [if_pos (by omega)]; omega
      · rw [if_neg b] at h2
        by_cases b' : z < y
        · rw [if_pos b'] at h2; omega
        · rw [if_pos (by omega)]; omega
    · rw [if_neg a] at h1
      by_cases a' : y < x
      · rw [if_pos a'] at h1; omega
      · rw [if_neg a'] at h1
        by_cases b : y < z
        · rw [if_pos (by omega)]; omega
        · rw [if_neg b] at h2
          by_cases b' : z < y
          · rw [if_pos b'] at h2; omega
          · rw [if_neg b'] at h2
            rw [if_neg (by omega), if_neg (by omega)]
            exact ih h1 h2
theorem lexI_cmp : Cmp lexI := ⟨lexI_anti, lexI_tr⟩
theorem lexI_eq : ∀ {x y : List Int}, lexI x y = 0 → x = y
  | [], [], _ => rfl
  | [], _ :: _, h => by simp [lexI] at h
  | _ :: _, [], h => by simp [lexI] at h
  | x :: xs, y :: ys, h => by
    simp only [lexI] at h
    split at h
    · omega
    · split at h
      · omega
      · rw [lexI_eq h, show x = y by omega]

/-- The divisor of g and of all of a list. -/
def gL : Nat → List Int → Nat
  | g, [] => g
  | g, x :: r => gL (Nat.gcd g x.natAbs) r
theorem gL_gcd : ∀ (xs : List Int) (a b : Nat), gL (Nat.gcd a b) xs = Nat.gcd (gL a xs) b
  | [], _, _ => rfl
  | x :: r, a, b => by
    simp only [gL]
    rw [← gL_gcd r]
    congr 1
    rw [Nat.gcd_assoc, Nat.gcd_comm b, ← Nat.gcd_assoc]
theorem gL_dvd : ∀ (xs : List Int) (g : Nat), gL g xs ∣ g ∧ ∀ x ∈ xs, gL g xs ∣ x.natAbs
  | [], g => ⟨Nat.dvd_refl g, fun x hx => by simp at hx⟩
  | x :: r, g => by
    obtain ⟨h1, h2⟩ := gL_dvd r (Nat.gcd g x.natAbs)
    refine ⟨Nat.dvd_trans h1 (Nat.gcd_dvd_left _ _), fun y hy => ?_⟩
    rcases List.mem_cons.1 hy with rfl | hy
    · exact Nat.dvd_trans h1 (Nat.gcd_dvd_right _ _)
    · exact h2 y hy
theorem gL_zero {xs : List Int} : gL 0 xs = 0 ↔ ∀ x ∈ xs, x = 0 := by
  constructor
  · intro h x hx
    have := (gL_dvd xs 0).2 x hx
    rw [h] at this
    have := Nat.eq_zero_of_zero_dvd this
    omega
  · intro h
    induction xs with
    | nil => rfl
    | cons x r ih =>
      have h0 := h x (by simp)
      subst h0
      exact ih fun y hy => h y (by simp [hy])

/-- An atom: its coefficients, its constant, is it strict. -/
abbrev Atm := List Int × Int × Bool
def gS (a : Atm) : Nat := max 1 (gL 0 a.1)
def dirA (a : Atm) : List Int := a.1.map fun x => x.tdiv (gS a : Int)
def sgI (n : Int) : Int := if n < 0 then -1 else if 0 < n then 1 else 0
def way (a b : Atm) : Int := lexI (dirA a) (dirA b)
/-- How strong, in one direction. -/
def strA (a b : Atm) : Int := sgI (a.2.1 * gS b - b.2.1 * gS a)
def stc (a b : Atm) : Int := if a.2.2 = b.2.2 then 0 else if a.2.2 then 1 else -1
def cmpA (a b : Atm) : Int := if way a b = 0 then (if strA a b = 0 then stc a b else strA a b) else way a b
theorem gS_pos (a : Atm) : (0 : Int) < gS a := by unfold gS; omega
theorem way_cmp : Cmp way := lexI_cmp.on dirA
theorem strA_cmp : Cmp strA := by
  refine ⟨fun a b => ?_, fun a b c h1 h2 => ?_⟩
  · unfold strA sgI
    split <;> split <;> (try split) <;> (try split) <;> omega
  · have le : ∀ x : Int, sgI x ≤ 0 ↔ x ≤ 0 := fun x => by unfold sgI; split <;> (try split) <;> omega
    unfold strA at *
    rw [le] at *
    have ga := gS_pos a; have gb := gS_pos b; have gc := gS_pos c
    generalize (gS a : Int) = p at *
    generalize (gS b : Int) = q at *
    generalize (gS c : Int) = r at *
    have h1 : a.2.1 * q ≤ b.2.1 * p := by omega
    have h2 : b.2.1 * r ≤ c.2.1 * q := by omega
    have e1 : (a.2.1 * q) * r ≤ (b.2.1 * p) * r := Int.mul_le_mul_of_nonneg_right h1 (by omega)
    have e2 : (b.2.1 * r) * p ≤ (c.2.1 * q) * p := Int.mul_le_mul_of_nonneg_right h2 (by omega)
    have e3 : (b.2.1 * p) * r = (b.2.1 * r) * p := by rw [Int.mul_assoc, Int.mul_comm p r, ← Int.mul_assoc]
    have e4 : (a.2.1 * r) * q ≤ (c.2.1 * p) * q := by
      have : (a.2.1 * r) * q = (a.2.1 * q) * r := by rw [Int.mul_assoc, Int.mul_comm r q, ← Int.mul_assoc]
      have : (c.2.1 * p) * q = (c.2.1 * q) * p := by rw [Int.mul_assoc, Int.mul_comm p q, ← Int.mul_assoc]
      omega
    have := Int.le_of_mul_le_mul_right e4 gb
    omega
theorem stc_cmp : Cmp stc := by
  refine ⟨fun a b => ?_, fun a b c => ?_⟩
  · unfold stc; cases a.2.2 <;> cases b.2.2 <;> decide
  · unfold stc; cases a.2.2 <;> cases b.2.2 <;> cases c.2.2 <;> decide
theorem cmpA_cmp : Cmp cmpA := way_cmp.lex (strA_cmp.lex stc_cmp)

/-- Atoms with variables in lowest terms. -/
def LowA (a : Atm) : Prop := gL 0 a.1 ≠ 0 ∧ gL a.2.1.natAbs a.1 ≤ 1
theorem dirA_mul {a : Atm} : a.1 = (dirA a).map fun x => x * (gS a : Int) := by
  unfold dirA
  rw [List.map_map]
  conv => lhs; rw [← List.map_id a.1]
  apply List.map_congr_left
  intro x hx
  have hd : ((gS a : Nat) : Int) ∣ x := by
    have h := (gL_dvd a.1 0).2 x hx
    have hg : gS a ∣ x.natAbs := by
      unfold gS
      by_cases h0 : gL 0 a.1 = 0
      · rw [h0]; exact Nat.one_dvd _
      · rw [Nat.max_eq_right (by omega)]; exact h
    exact Int.ofNat_dvd_left.2 hg
  exact (Int.tdiv_mul_cancel hd).symm
theorem cmpA_eq {a b : Atm} (ha : LowA a) (hb : LowA b) (h : cmpA a b = 0) : a = b := by
  unfold cmpA at h
  split at h
  · rename_i h1
    split at h
    · rename_i h2
      have hd := lexI_eq h1
      have hs : a.2.2 = b.2.2 := by
        unfold stc at h
        split at h
        · assumption
        · split at h <;> omega
      have e : a.2.1 * gS b = b.2.1 * gS a := by
        unfold strA sgI at h2
        split at h2
        · omega
        · split at h2 <;> omega
      have cop : ∀ x : Atm, LowA x → Nat.gcd (gS x) x.2.1.natAbs = 1 := fun x hx => by
        have e1 : gL x.2.1.natAbs x.1 = Nat.gcd (gL 0 x.1) x.2.1.natAbs := by rw [← gL_gcd, Nat.gcd_zero_left]
        have e2 : gS x = gL 0 x.1 := Nat.max_eq_right (by have := hx.1; omega)
        rw [e2, ← e1]
        have h1 := hx.2
        have h2 : gL x.2.1.natAbs x.1 ≠ 0 := by
          rw [e1]; intro h0
          exact hx.1 (Nat.eq_zero_of_gcd_eq_zero_left h0)
        omega
      have e' : a.2.1.natAbs * gS b = b.2.1.natAbs * gS a := by
        have := congrArg Int.natAbs e
        simpa [Int.natAbs_mul] using this
      have d1 : gS a ∣ gS b := by
        have : gS a ∣ a.2.1.natAbs * gS b := ⟨b.2.1.natAbs, by rw [e', Nat.mul_comm]⟩
        exact (Nat.Coprime.dvd_of_dvd_mul_left (cop a ha) this)
      have d2 : gS b ∣ gS a := by
        have : gS b ∣ b.2.1.natAbs * gS a := ⟨a.2.1.natAbs, by rw [← e', Nat.mul_comm]⟩
        exact (Nat.Coprime.dvd_of_dvd_mul_left (cop b hb) this)
      have hg : gS a = gS b := Nat.dvd_antisymm d1 d2
      have hc : a.2.1 = b.2.1 := by
        rw [hg] at e
        exact Int.eq_of_mul_eq_mul_right (by have := gS_pos b; omega) e
      have h1 : a.1 = b.1 := by rw [dirA_mul (a := a), dirA_mul (a := b), hg, hd]
      exact Prod.ext h1 (Prod.ext hc hs)
    · rename_i h2; exact absurd h h2
  · rename_i h1; exact absurd h h1

/-! ### normal lists -/
/-- l is what is normal of xs: strictly in order of directions, of xs, and of each direction the strongest. -/
structure NormOf (xs l : List Atm) : Prop where
  ord : l.Pairwise fun a b => way a b < 0
  mem : ∀ a ∈ l, a ∈ xs
  top : ∀ a ∈ xs, ∃ b ∈ l, way a b = 0 ∧ cmpA a b ≤ 0
theorem ord_eq {l : List Atm} (h : l.Pairwise fun a b => way a b < 0) {a b : Atm} (ha : a ∈ l) (hb : b ∈ l) (e : way a b = 0) : a = b := by
  obtain ⟨i, hi, rfl⟩ := List.mem_iff_getElem.1 ha
  obtain ⟨j, hj, rfl⟩ := List.mem_iff_getElem.1 hb
  rw [List.pairwise_iff_getElem] at h
  rcases Nat.lt_trichotomy i j with h1 | h1 | h1
  · have := h i j hi hj h1; omega
  · subst h1; rfl
  · have := h j i hj hi h1
    have := way_cmp.anti l[i] l[j]
    omega
theorem ord_ext : ∀ {l l' : List Atm}, l.Pairwise (fun a b => way a b < 0) → l'.Pairwise (fun a b => way a b < 0) → (∀ a, a ∈ l ↔ a ∈ l') → l = l'
  | [], [], _, _, _ => rfl
  | [], b :: r', _, _, h => by have := (h b).2 (by simp); simp at this
  | a :: r, [], _, _, h => by have := (h a).1 (by simp); simp at this
  | a :: r, b :: r', h1, h2, h => by
    obtain ⟨p1, p2⟩ := List.pairwise_cons.1 h1
    obtain ⟨q1, q2⟩ := List.pairwise_cons.1 h2
    have e : a = b := by
      rcases List.mem_cons.1 ((h a).1 (by simp)) with e | e
      · exact e
      · rcases List.mem_cons.1 ((h b).2 (by simp)) with f | f
        · exact f.symm
        · have := p1 b f
          have := q1 a e
          have := way_cmp.anti a b
          omega
    subst e
    rw [ord_ext p2 q2 fun x => ?_]
    have := h x
    constructor
    · intro hx
      rcases List.mem_cons.1 (this.1 (by simp [hx])) with e | e
      · subst e
        have := p1 x hx
        have := way_cmp.self x
        omega
      · exact e
    · intro hx
      rcases List.mem_cons.1 (this.2 (by simp [hx])) with e | e
      · subst e
        have := q1 x hx
        have := way_cmp.self x
        omega
      · exact e
theorem norm_uniq {xs l l' : List Atm} (hx : ∀ a ∈ xs, LowA a) (h : NormOf xs l) (h' : NormOf xs l') : l = l' := by
  have half : ∀ {l l' : List Atm}, NormOf xs l → NormOf xs l' → ∀ a ∈ l, a ∈ l' := fun {l l'} h h' a ha => by
    obtain ⟨b, hb, w1, c1⟩ := h'.top a (h.mem a ha)
    obtain ⟨c, hc, w2, c2⟩ := h.top b (h'.mem b hb)
    have : a = c := ord_eq h.ord ha hc (way_cmp.eq_tr w1 w2)
    subst this
    have e : cmpA a b = 0 := by have := cmpA_cmp.anti a b; omega
    rw [cmpA_eq (hx a (h.mem a ha)) (hx b (h'.mem b hb)) e]
    exact hb
  exact ord_ext h.ord h'.ord fun a => ⟨half h h' a, half h' h a⟩

/-- Put into its place; of two in one direction the stronger one stays. -/
def putA : List Atm → Atm → List Atm
  | [], a => [a]
  | b :: r, a => if way b a < 0 then b :: putA r a else if way b a = 0 then (if cmpA a b ≤ 0 then b :: r else a :: r) else a :: b :: r
def nrmL (xs : List Atm) : List Atm := xs.foldl putA []
theorem putA_mem : ∀ {l : List Atm} {a x : Atm}, x ∈ putA l a → x = a ∨ x ∈ l
  | [], a, x, h => by simp [putA] at h; exact .inl h
  | b :: r, a, x, h => by
    simp only [putA] at h
    split at h
    · rcases List.mem_cons.1 h with e | e
      · exact .inr (by simp [e])
      · rcases putA_mem e with e | e
        · exact .inl e
        · exact .inr (by simp [e])
    · split at h
      · split at h
        · exact .inr h
        · rcases List.mem_cons.1 h with e | e
          · exact .inl e
          · exact .inr (by simp [e])
      · rcases List.mem_cons.1 h with e | e
        · exact .inl e
        · exact .inr e
theorem putA_ord : ∀ {l : List Atm} {a : Atm}, l.Pairwise (fun a b => way a b < 0) → (putA l a).Pairwise (fun a b => way a b < 0)
  | [], a, _ => by simp [putA]
  | b :: r, a, h => by
    obtain ⟨p1, p2⟩ := List.pairwise_cons.1 h
    simp only [putA]
    split
    · rename_i h1
      refine List.pairwise_cons.2 ⟨fun x hx => ?_, putA_ord p2⟩
      rcases putA_mem hx with rfl | hx
      · exact h1
      · exact p1 x hx
    · split
      · rename_i h1 h2
        split
        · exact h
        · refine List.pairwise_cons.2 ⟨fun x hx => ?_, p2⟩
          have := way_cmp.anti a b
          exact way_cmp.le_lt (by omega) (p1 x hx)
      · rename_i h1 h2
        have := way_cmp.anti a b
        refine List.pairwise_cons.2 ⟨fun x hx => ?_, h⟩
        rcases List.mem_cons.1 hx with rfl | hx
        · omega
        · exact way_cmp.lt_le (by omega) (Int.le_of_lt (p1 x hx))
theorem putA_top : ∀ {l : List Atm} {a x : Atm}, (x = a ∨ ∃ b ∈ l, way x b = 0 ∧ cmpA x b ≤ 0) → ∃ b ∈ putA l a, way x b = 0 ∧ cmpA x b ≤ 0
  | [], a, x, h => by
    rcases h with rfl | ⟨b, hb, _⟩
    · exact ⟨x, by simp [putA], way_cmp.self x, by rw [cmpA_cmp.self]; omega⟩
    · simp at hb
  | b :: r, a, x, h => by
    simp only [putA]
    split
    · rename_i h1
      rcases h with rfl | ⟨c, hc, h2⟩
      · obtain ⟨c, hc, h2⟩ := putA_top (l := r) (a := x) (x := x) (.inl rfl)
        exact ⟨c, by simp [hc], h2⟩
      · rcases List.mem_cons.1 hc with rfl | hc
        · exact ⟨c, by simp, h2⟩
        · obtain ⟨c', hc', h3⟩ := putA_top (l := r) (a := a) (x := x) (.inr ⟨c, hc, h2⟩)
          exact ⟨c', by simp [hc'], h3⟩
    · split
      · rename_i h1 h2
        have hab := way_cmp.anti a b
        split
        · rename_i h3
          rcases h with rfl | h
          · exact ⟨b, by simp, by omega, h3⟩
          · exact h
        · rename_i h3
          have hc := cmpA_cmp.anti a b
          rcases h with rfl | ⟨c, hc', h4⟩
          · exact ⟨x, by simp, way_cmp.self x, by rw [cmpA_cmp.self]; omega⟩
          · rcases List.mem_cons.1 hc' with rfl | hc'
            · exact ⟨a, by simp, way_cmp.eq_tr h4.1 h2, cmpA_cmp.tr x c a h4.2 (by omega)⟩
            · exact ⟨c, by simp [hc'], h4⟩
      · rcases h with rfl | ⟨c, hc, h2⟩
        · exact ⟨x, by simp, way_cmp.self x, by rw [cmpA_cmp.self]; omega⟩
        · exact ⟨c, by simp only [List.mem_cons] at hc ⊢; exact .inr hc, h2⟩
theorem nrm_go : ∀ (xs ys l : List Atm), NormOf ys l → NormOf (ys ++ xs) (xs.foldl putA l)
  | [], ys, l, h => by simpa using h
  | a :: xs, ys, l, h => by
    have : NormOf (ys ++ [a]) (putA l a) := ⟨putA_ord h.ord, fun x hx => by
      rcases putA_mem hx with rfl | hx
      · simp
      · simp [h.mem x hx], fun x hx => by
      refine putA_top ?_
      rcases List.mem_append.1 hx with hx | hx
      · exact .inr (h.top x hx)
      · exact .inl (by simpa using hx)⟩
    have := nrm_go xs (ys ++ [a]) (putA l a) this
    simpa using this
theorem nrm_of (xs : List Atm) : NormOf xs (nrmL xs) := by simpa [nrmL] using nrm_go xs [] [] ⟨List.Pairwise.nil, fun a h => by simp at h, fun a h => by simp at h⟩

/-! ### sorted lists, the last of each direction -/
def srtA (xs : List Atm) : List Atm := xs.mergeSort fun a b => decide (cmpA a b ≤ 0)
theorem srtA_perm (xs : List Atm) : (srtA xs).Perm xs := List.mergeSort_perm _ _
theorem srtA_ord (xs : List Atm) : (srtA xs).Pairwise fun a b => cmpA a b ≤ 0 := by
  have := List.pairwise_mergeSort (le := fun a b => decide (cmpA a b ≤ 0)) (fun a b c h1 h2 => by
    simp only [decide_eq_true_eq] at *; exact cmpA_cmp.tr a b c h1 h2) (fun a b => by
    have := cmpA_cmp.anti a b
    simp only [Bool.or_eq_true, decide_eq_true_eq]; omega) xs
  exact this.imp fun h => by simpa using h
theorem srtA_uniq {xs ys : List Atm} (hx : ∀ a ∈ xs, LowA a) (hp : ys.Perm xs) (ho : ys.Pairwise fun a b => ¬ cmpA b a < 0) : ys = srtA xs := by
  refine List.Perm.eq_of_pairwise (le := fun a b => cmpA a b ≤ 0) (fun a b ha hb h1 h2 => ?_) (ho.imp fun {a b} h => by have := cmpA_cmp.anti a b; omega) (srtA_ord xs) (hp.trans (srtA_perm xs).symm)
  have := cmpA_cmp.anti a b
  exact cmpA_eq (hx a (hp.mem_iff.1 ha)) (hx b ((srtA_perm xs).mem_iff.1 hb)) (by omega)
/-- The last ones of each direction: their places. -/
def keepB (S : List Atm) (i : Nat) : Bool := decide (i + 1 < S.length) && decide (way (S.getD i ([], 0, false)) (S.getD (i + 1) ([], 0, false)) = 0)
def keepS (S : List Atm) : List Nat := (List.range S.length).filter fun i => !keepB S i
theorem keepS_nodup (S : List Atm) : (keepS S).Nodup := (List.nodup_range).filter _
theorem keepS_lt {S : List Atm} {i : Nat} (h : i ∈ keepS S) : i < S.length := by
  have := (List.mem_filter.1 h).1; simpa using this
theorem way_le_of_cmp {a b : Atm} (h : cmpA a b ≤ 0) : way a b ≤ 0 := by
  unfold cmpA at h; split at h <;> omega
theorem keep_norm {xs S : List Atm} (hp : S.Perm xs) (ho : S.Pairwise fun a b => cmpA a b ≤ 0) : NormOf xs ((keepS S).map fun i => S.getD i ([], 0, false)) := by
  have hat : ∀ {i : Nat} (h : i < S.length), S.getD i ([], 0, false) = S[i] := fun h => by simp [List.getD, h]
  have ho' := List.pairwise_iff_getElem.1 ho
  have ge : ∀ i j (h1 : i < S.length) (h2 : j < S.length), i ≤ j → cmpA S[i] S[j] ≤ 0 := fun i j h1 h2 h => by
    rcases Nat.lt_or_eq_of_le h with h | h
    · exact ho' i j h1 h2 h
    · subst h; rw [cmpA_cmp.self]; omega
  refine ⟨?_, fun a ha => ?_, fun a ha => ?_⟩
  · rw [List.pairwise_map]
    have hlt : (keepS S).Pairwise (· < ·) := (List.pairwise_lt_range).filter _
    refine hlt.imp_of_mem fun {i j} hi hj hij => ?_
    have h1 := keepS_lt hi
    have h2 := keepS_lt hj
    rw [hat h1, hat h2]
    have hk := (List.mem_filter.1 hi).2
    simp only [keepB, Bool.not_eq_true', Bool.and_eq_false_iff, decide_eq_false_iff_not] at hk
    have h3 : i + 1 < S.length := by omega
    have hne : way S[i] S[i + 1] ≠ 0 := by
      rcases hk with hk | hk
      · omega
      · rwa [hat h1, hat h3] at hk
    have l1 := way_le_of_cmp (ge i (i + 1) h1 h3 (by omega))
    have l2 := way_le_of_cmp (ge (i + 1) j h3 h2 (by omega))
    exact way_cmp.lt_le (by omega) l2
  · obtain ⟨i, hi, rfl⟩ := List.mem_map.1 ha
    rw [hat (keepS_lt hi)]
    exact hp.mem_iff.1 (List.getElem_mem _)
  · obtain ⟨i, hi, rfl⟩ := List.mem_iff_getElem.1 (hp.mem_iff.2 ha)
    have : ∀ n i (hi : i < S.length), S.length - i ≤ n → ∃ j, ∃ hj : j < S.length, j ∈ keepS S ∧ i ≤ j ∧ way S[i] S[j] = 0 := fun n => by
      induction n with
      | zero => intro i hi hn; omega
      | succ n ih =>
        intro i hi hn
        cases hk : keepB S i with
        | false => exact ⟨i, hi, List.mem_filter.2 ⟨by simpa using hi, by simp [hk]⟩, Nat.le_refl _, way_cmp.self _⟩
        | true =>
          simp only [keepB, Bool.and_eq_true, decide_eq_true_eq] at hk
          obtain ⟨h1, h2⟩ := hk
          rw [hat hi, hat h1] at h2
          obtain ⟨j, hj, h3, h4, h5⟩ := ih (i + 1) h1 (by omega)
          exact ⟨j, hj, h3, by omega, way_cmp.eq_tr h2 h5⟩
    obtain ⟨j, hj, h1, h2, h3⟩ := this _ i hi (Nat.le_refl _)
    exact ⟨S[j], List.mem_map.2 ⟨j, h1, hat hj⟩, h3, ge i j hi hj h2⟩
/-- Both ways to the normal list. -/
theorem keep_eq {xs : List Atm} (hx : ∀ a ∈ xs, LowA a) : ((keepS (srtA xs)).map fun i => (srtA xs).getD i ([], 0, false)) = nrmL xs := norm_uniq hx (keep_norm (srtA_perm xs) (srtA_ord xs)) (nrm_of xs)
end Go.T
