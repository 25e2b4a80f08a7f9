/-
Boxes of a plane: the number of dark pixels in a box, and what it tells. Conditions: as each theorem says.
-/
import Derived.Test.YtkakiblnhgpdnaaXPure
namespace Go.Proofs.Ytkakiblnhgpdnaa.Pure
set_option linter.unusedVariables false
set_option linter.unusedSimpArgs false
open Go.RowKit Go.Proofs.YtkakiblnhgpdnaaW.PrintWords Go.Proofs.YtkakiblnhgpdnaaW.PrintLast Go.Proofs.YtkakiblnhgpdnaaW.PrintMore Go.Proofs.Ytkakiblnhgpdnaa.XWords Go.Proofs.Ytkakiblnhgpdnaa.XPure

/-- The sum of n neighbours from a on. -/
def acc (f : Int → Int) (a : Int) : Nat → Int
  | 0 => 0
  | n + 1 => acc f a n + f (a + n)
theorem acc_congr {f g : Int → Int} {a : Int} : ∀ {n : Nat}, (∀ i, a ≤ i → i < a + n → f i = g i) → acc f a n = acc g a n
  | 0, _ => rfl
  | n + 1, h => by
    rw [acc, acc, acc_congr (n := n) (fun i h1 h2 => h i h1 (by omega)), h (a + n) (by omega) (by omega)]
theorem acc_zero {f : Int → Int} {a : Int} : ∀ {n : Nat}, (∀ i, a ≤ i → i < a + n → f i = 0) → acc f a n = 0
  | 0, _ => rfl
  | n + 1, h => by
    rw [acc, acc_zero (n := n) (fun i h1 h2 => h i h1 (by omega)), h (a + n) (by omega) (by omega)]; rfl
theorem acc_const (c a : Int) : ∀ n : Nat, acc (fun _ => c) a n = c * n
  | 0 => by simp [acc]
  | n + 1 => by
    rw [acc, acc_const c a n]
    have e : c * ((n + 1 : Nat) : Int) = c * n + c := by rw [Int.natCast_add, Int.mul_add]; simp
    omega
theorem acc_plus (f g : Int → Int) (a : Int) : ∀ n : Nat, acc (fun i => f i + g i) a n = acc f a n + acc g a n
  | 0 => rfl
  | n + 1 => by
    simp only [acc]
    rw [acc_plus f g a n]
    omega
theorem acc_split (f : Int → Int) (a : Int) (m : Nat) : ∀ n : Nat, acc f a (m + n) = acc f a m + acc f (a + m) n
  | 0 => by simp [acc]
  | n + 1 => by
    have e : a + ((m + n : Nat) : Int) = a + m + n := by omega
    rw [← Nat.add_assoc, acc, acc, acc_split f a m n, e]
    omega
theorem acc_bound {f : Int → Int} {a lo hi : Int} (h : ∀ i, lo ≤ f i ∧ f i ≤ hi) : ∀ n : Nat, lo * n ≤ acc f a n ∧ acc f a n ≤ hi * n
  | 0 => by simp [acc]
  | n + 1 => by
    have h1 := acc_bound (a := a) h n
    have h2 := h (a + n)
    have e1 : lo * ((n + 1 : Nat) : Int) = lo * n + lo := by rw [Int.natCast_add, Int.mul_add]; simp
    have e2 : hi * ((n + 1 : Nat) : Int) = hi * n + hi := by rw [Int.natCast_add, Int.mul_add]; simp
    rw [acc, e1, e2]
    omega
theorem getD_set' {α : Type} (l : List α) (i j : Nat) (x d : α) (hi : i < l.length) : (l.set i x).getD j d = if j = i then x else l.getD j d := by
  simp only [List.getD_eq_getElem?_getD, List.getElem?_set]
  by_cases h : i = j
  · subst h
    rw [if_pos rfl, if_pos hi, if_pos rfl]
    rfl
  · rw [if_neg h, if_neg (fun hh => h hh.symm)]
theorem acc_clip {g : Int → Int} {a : Int} {m n : Nat} (h : m ≤ n) (hz : ∀ i, a + m ≤ i → i < a + n → g i = 0) : acc g a m = acc g a n := by
  obtain ⟨d, rfl⟩ := Nat.exists_eq_add_of_le h
  rw [acc_split, acc_zero (f := g) (a := a + m) (n := d) (fun i h1 h2 => hz i h1 (by omega))]
  omega
theorem acc_next (g : Int → Int) {a i : Int} (h : a ≤ i) : acc g a (i + 1 - a).toNat = acc g a (i - a).toNat + g i := by
  have e : (i + 1 - a).toNat = (i - a).toNat + 1 := by omega
  have e2 : a + (((i - a).toNat : Nat) : Int) = i := by omega
  rw [e, acc, e2]
/-- A loop 'for i := a; i <= m; i++' with an invariant. -/
theorem ev_scan {σ β : Type} (L : Nat → Int → σ → Option β) (a m : Int) (Inv : Int → σ → Prop) (r : β)
    (hstep : ∀ i s, a ≤ i → i ≤ m → Inv i s → (∀ s', Inv (i + 1) s' → Ev (fun k => L k (i + 1) s') r) → Ev (fun k => L k i s) r)
    (hend : ∀ i s, a ≤ i → m < i → i ≤ max a (m + 1) → Inv i s → Ev (fun k => L k i s) r) (s0 : σ) (h0 : Inv a s0) : Ev (fun k => L k a s0) r := by
  by_cases h : a ≤ m + 1
  · exact ev_loop L a (m + 1) h Inv r (fun i s h1 h2 hI K => hstep i s h1 (by omega) hI K) (fun s hI => hend (m + 1) s h (by omega) (by omega) hI) s0 h0
  · exact hend a s0 (Int.le_refl _) (by omega) (by omega) h0
theorem acc_full {f : Int → Int} {c a : Int} (h : ∀ i, f i ≤ c) : ∀ n : Nat, acc f a n = c * n ↔ ∀ i, a ≤ i → i < a + n → f i = c
  | 0 => ⟨fun _ i h1 h2 => by omega, fun _ => by simp [acc]⟩
  | n + 1 => by
    have ih := acc_full (a := a) h n
    have hle : acc f a n ≤ c * n := by
      clear ih
      induction n with
      | zero => simp [acc]
      | succ n ihn =>
        have := h (a + n)
        have e : c * ((n + 1 : Nat) : Int) = c * n + c := by rw [Int.natCast_add, Int.mul_add]; simp
        rw [acc, e]
        omega
    have e : c * ((n + 1 : Nat) : Int) = c * n + c := by rw [Int.natCast_add, Int.mul_add]; simp
    have hn := h (a + n)
    rw [acc, e]
    constructor
    · intro hh i h1 h2
      by_cases hi : i = a + n
      · rw [hi]; omega
      · exact ih.1 (by omega) i h1 (by omega)
    · intro hh
      have h1 := ih.2 (fun i h1 h2 => hh i h1 (by omega))
      have h2 := hh (a + n) (by omega) (by omega)
      omega
theorem acc_pos {f : Int → Int} {a : Int} (h : ∀ i, 0 ≤ f i) : ∀ n : Nat, 0 < acc f a n ↔ ∃ i, a ≤ i ∧ i < a + n ∧ 0 < f i
  | 0 => ⟨fun hh => by simp [acc] at hh, fun ⟨i, h1, h2, _⟩ => by omega⟩
  | n + 1 => by
    have ih := acc_pos (a := a) h n
    have h0 : 0 ≤ acc f a n := by
      clear ih
      induction n with
      | zero => simp [acc]
      | succ n ihn => have := h (a + n); rw [acc]; omega
    have hn := h (a + n)
    rw [acc]
    constructor
    · intro hh
      by_cases hc : 0 < f (a + n)
      · exact ⟨a + n, by omega, by omega, hc⟩
      · obtain ⟨i, h1, h2, h3⟩ := ih.1 (by omega)
        exact ⟨i, h1, by omega, h3⟩
    · rintro ⟨i, h1, h2, h3⟩
      by_cases hi : i = a + n
      · rw [hi] at h3; omega
      · have := ih.2 ⟨i, h1, by omega, h3⟩
        omega
theorem acc_move (f : Int → Int) (d a : Int) : ∀ n : Nat, acc (fun i => f (i - d)) a n = acc f (a - d) n
  | 0 => rfl
  | n + 1 => by
    have e : a + (n : Int) - d = a - d + n := by omega
    rw [acc, acc, acc_move f d a n, e]
/-- One for a dark pixel. -/
def bit (b : Bool) : Int := if b = true then 1 else 0
theorem bit_range (b : Bool) : 0 ≤ bit b ∧ bit b ≤ 1 := by unfold bit; split <;> omega
theorem bit_one {b : Bool} : bit b = 1 ↔ b = true := by unfold bit; split <;> simp_all
theorem bit_pos {b : Bool} : 0 < bit b ↔ b = true := by unfold bit; split <;> simp_all
/-- The dark pixels of the a by b pixels from (x, y) on. -/
def cnt (D : Int → Int → Bool) (x y : Int) (a b : Nat) : Int := acc (fun v => acc (fun u => bit (D u v)) x a) y b
theorem row_range (D : Int → Int → Bool) (x : Int) (a : Nat) (v : Int) : 0 ≤ acc (fun u => bit (D u v)) x a ∧ acc (fun u => bit (D u v)) x a ≤ a := by
  have := acc_bound (a := x) (fun u => bit_range (D u v)) a
  omega
theorem cnt_all {D : Int → Int → Bool} {x y : Int} {a b : Nat} : cnt D x y a b = (a : Int) * b ↔ ∀ u v, x ≤ u → u < x + a → y ≤ v → v < y + b → D u v = true := by
  unfold cnt
  rw [acc_full (c := a) (fun v => (row_range D x a v).2)]
  constructor
  · intro h u v h1 h2 h3 h4
    have h5 := h v h3 h4
    have e : (a : Int) = 1 * a := by omega
    rw [e, acc_full (fun u => (bit_range (D u v)).2)] at h5
    exact bit_one.1 (h5 u h1 h2)
  · intro h v h3 h4
    have e : (a : Int) = 1 * a := by omega
    rw [e, acc_full (fun u => (bit_range (D u v)).2)]
    exact fun u h1 h2 => bit_one.2 (h u v h1 h2 h3 h4)
theorem cnt_some {D : Int → Int → Bool} {x y : Int} {a b : Nat} : 0 < cnt D x y a b ↔ ∃ u v, x ≤ u ∧ u < x + a ∧ y ≤ v ∧ v < y + b ∧ D u v = true := by
  unfold cnt
  rw [acc_pos (fun v => (row_range D x a v).1)]
  constructor
  · rintro ⟨v, h1, h2, h3⟩
    rw [acc_pos (fun u => (bit_range (D u v)).1)] at h3
    obtain ⟨u, h4, h5, h6⟩ := h3
    exact ⟨u, v, h4, h5, h1, h2, bit_pos.1 h6⟩
  · rintro ⟨u, v, h1, h2, h3, h4, h5⟩
    exact ⟨v, h3, h4, (acc_pos (fun u => (bit_range (D u v)).1) a).2 ⟨u, h1, h2, bit_pos.2 h5⟩⟩
theorem cnt_range (D : Int → Int → Bool) (x y : Int) (a b : Nat) : 0 ≤ cnt D x y a b ∧ cnt D x y a b ≤ (a : Int) * b := by
  have := acc_bound (a := y) (fun v => row_range D x a v) b
  unfold cnt
  omega
/-- The count of the box of the radii around a pixel. -/
def around (D : Int → Int → Bool) (r s x y : Int) : Int := cnt D (x - r) (y - s) (2 * r + 1).toNat (2 * s + 1).toNat
/-- The whole box is dark; some pixel of it is. -/
def Whole (r s : Int) (D : Int → Int → Prop) (x y : Int) : Prop := ∀ u v, x - r ≤ u → u ≤ x + r → y - s ≤ v → v ≤ y + s → D u v
def Part (r s : Int) (D : Int → Int → Prop) (x y : Int) : Prop := ∃ u v, x - r ≤ u ∧ u ≤ x + r ∧ y - s ≤ v ∧ v ≤ y + s ∧ D u v
theorem around_whole {D : Int → Int → Bool} {r s x y : Int} (hr : 0 ≤ r) (hs : 0 ≤ s) : around D r s x y = (2 * r + 1) * (2 * s + 1) ↔ Whole r s (fun u v => D u v = true) x y := by
  have e1 : (((2 * r + 1).toNat : Nat) : Int) = 2 * r + 1 := by omega
  have e2 : (((2 * s + 1).toNat : Nat) : Int) = 2 * s + 1 := by omega
  have h := cnt_all (D := D) (x := x - r) (y := y - s) (a := (2 * r + 1).toNat) (b := (2 * s + 1).toNat)
  rw [e1, e2] at h
  unfold around
  rw [h]
  constructor
  · intro hh u v h1 h2 h3 h4; exact hh u v h1 (by omega) h3 (by omega)
  · intro hh u v h1 h2 h3 h4; exact hh u v h1 (by omega) h3 (by omega)
theorem around_part {D : Int → Int → Bool} {r s x y : Int} (hr : 0 ≤ r) (hs : 0 ≤ s) : 0 < around D r s x y ↔ Part r s (fun u v => D u v = true) x y := by
  have e1 : (((2 * r + 1).toNat : Nat) : Int) = 2 * r + 1 := by omega
  have e2 : (((2 * s + 1).toNat : Nat) : Int) = 2 * s + 1 := by omega
  have h := cnt_some (D := D) (x := x - r) (y := y - s) (a := (2 * r + 1).toNat) (b := (2 * s + 1).toNat)
  rw [e1, e2] at h
  unfold around
  rw [h]
  constructor
  · rintro ⟨u, v, h1, h2, h3, h4, h5⟩; exact ⟨u, v, h1, by omega, h3, by omega, h5⟩
  · rintro ⟨u, v, h1, h2, h3, h4, h5⟩; exact ⟨u, v, h1, by omega, h3, by omega, h5⟩
theorem around_range {D : Int → Int → Bool} {r s x y : Int} (hr : 0 ≤ r) (hr2 : r ≤ 4096) (hs : 0 ≤ s) (hs2 : s ≤ 4096) : 0 ≤ around D r s x y ∧ around D r s x y ≤ 8193 * 8193 := by
  have h := cnt_range D (x - r) (y - s) (2 * r + 1).toNat (2 * s + 1).toNat
  have e1 : (((2 * r + 1).toNat : Nat) : Int) = 2 * r + 1 := by omega
  have e2 : (((2 * s + 1).toNat : Nat) : Int) = 2 * s + 1 := by omega
  rw [e1, e2] at h
  have h2 : (2 * r + 1) * (2 * s + 1) ≤ 8193 * 8193 := Int.mul_le_mul (by omega) (by omega) (by omega) (by omega)
  unfold around
  omega
theorem around_move (D : Int → Int → Bool) (r s x y d e : Int) : around (fun u v => D (u - d) (v - e)) r s x y = around D r s (x - d) (y - e) := by
  unfold around cnt
  have h1 : x - d - r = x - r - d := by omega
  have h2 : y - e - s = y - s - e := by omega
  rw [h1, h2]
  have h3 : (fun v => acc (fun u => bit (D (u - d) (v - e))) (x - r) (2 * r + 1).toNat) = fun v => (fun v => acc (fun u => bit (D u v)) (x - r - d) (2 * r + 1).toNat) (v - e) := by
    funext v
    exact acc_move (fun u => bit (D u (v - e))) d (x - r) _
  rw [h3]
  exact acc_move (fun v => acc (fun u => bit (D u v)) (x - r - d) (2 * r + 1).toNat) e (y - s) _
/-- A sum over a window, where all lies between 0 and w. -/
theorem acc_window {g : Int → Int} {w x r L R : Int} (hz : ∀ i, ¬ (0 ≤ i ∧ i < w) → g i = 0) (hr : 0 ≤ r) (hL : L = max 0 (x - r)) (hR : R = min w (x + r + 1)) (hx0 : 0 ≤ x) (hx : x < w) : acc g (x - r) (2 * r + 1).toNat = acc g L (R - L).toNat := by
  have hLe : x - r ≤ L := by omega
  have hRe : R ≤ x + r + 1 := by omega
  have hLR : L ≤ R := by omega
  have e : (2 * r + 1).toNat = (L - (x - r)).toNat + ((R - L).toNat + (x + r + 1 - R).toNat) := by omega
  have e1 : x - r + (((L - (x - r)).toNat : Nat) : Int) = L := by omega
  have e2 : L + (((R - L).toNat : Nat) : Int) = R := by omega
  rw [e, acc_split, acc_split, e1, e2, acc_zero (f := g) (a := x - r) (fun i h1 h2 => hz i (by omega)), acc_zero (f := g) (a := R) (fun i h1 h2 => hz i (by omega))]
  omega
/-- The sums above and to the left. -/
def corner (D : Int → Int → Bool) (i j : Int) : Int := cnt D 0 0 i.toNat j.toNat
theorem corner_left (D : Int → Int → Bool) (j : Int) : corner D 0 j = 0 := by
  unfold corner cnt
  exact acc_zero (fun v _ _ => rfl)
theorem corner_top (D : Int → Int → Bool) (i : Int) : corner D i 0 = 0 := rfl
theorem corner_step (D : Int → Int → Bool) {i j : Int} (hi : 0 ≤ i) (hj : 0 ≤ j) : corner D (i + 1) (j + 1) = bit (D i j) + corner D i (j + 1) + corner D (i + 1) j - corner D i j := by
  unfold corner cnt
  have e1 : (i + 1).toNat = i.toNat + 1 := by omega
  have e2 : (j + 1).toNat = j.toNat + 1 := by omega
  have e3 : (0 : Int) + ((j.toNat : Nat) : Int) = j := by omega
  have e4 : (0 : Int) + ((i.toNat : Nat) : Int) = i := by omega
  rw [e2, acc, acc, e3, e1, acc, e4]
  omega
theorem corner_range (D : Int → Int → Bool) {i j : Int} (hi : 0 ≤ i) (hi2 : i ≤ 20000) (hj : 0 ≤ j) (hj2 : j ≤ 20000) : 0 ≤ corner D i j ∧ corner D i j ≤ 400000000 := by
  have h := cnt_range D 0 0 i.toNat j.toNat
  have h2 : ((i.toNat : Nat) : Int) * (j.toNat : Nat) ≤ 20000 * 20000 := Int.mul_le_mul (by omega) (by omega) (by omega) (by omega)
  unfold corner
  omega
theorem corner_box (D : Int → Int → Bool) {L R T B : Int} (hL : 0 ≤ L) (hLR : L ≤ R) (hT : 0 ≤ T) (hTB : T ≤ B) : corner D R B - corner D R T - corner D L B + corner D L T = cnt D L T (R - L).toNat (B - T).toNat := by
  unfold corner cnt
  have e1 : B.toNat = T.toNat + (B - T).toNat := by omega
  have e2 : R.toNat = L.toNat + (R - L).toNat := by omega
  have e3 : (0 : Int) + ((T.toNat : Nat) : Int) = T := by omega
  have e4 : (0 : Int) + ((L.toNat : Nat) : Int) = L := by omega
  rw [e1, acc_split, acc_split, e3]
  have h : (fun v => acc (fun u => bit (D u v)) 0 R.toNat) = fun v => acc (fun u => bit (D u v)) 0 L.toNat + acc (fun u => bit (D u v)) L (R - L).toNat := by
    funext v
    rw [e2, acc_split, e4]
  rw [h, acc_plus, acc_plus]
  omega
theorem around_corner {D : Int → Int → Bool} {w h r s x y L R T B : Int} (hD : ∀ u v, ¬ (0 ≤ u ∧ u < w ∧ 0 ≤ v ∧ v < h) → D u v = false) (hr : 0 ≤ r) (hs : 0 ≤ s) (hx0 : 0 ≤ x) (hx : x < w) (hy0 : 0 ≤ y) (hy : y < h)
    (hL : L = max 0 (x - r)) (hR : R = min w (x + r + 1)) (hT : T = max 0 (y - s)) (hB : B = min h (y + s + 1)) : corner D R B - corner D R T - corner D L B + corner D L T = around D r s x y := by
  rw [corner_box D (by omega) (by omega) (by omega) (by omega)]
  have hb : ∀ u v, ¬ (0 ≤ u ∧ u < w ∧ 0 ≤ v ∧ v < h) → bit (D u v) = 0 := fun u v h0 => by rw [hD u v h0]; rfl
  unfold around cnt
  rw [acc_window (g := fun v => acc (fun u => bit (D u v)) (x - r) (2 * r + 1).toNat) (w := h) (fun v hv => acc_zero (fun u _ _ => hb u v (by omega))) hs hT hB hy0 hy]
  exact acc_congr (fun v _ _ => (acc_window (fun u hu => hb u v (by omega)) hr hL hR hx0 hx).symm)
end Go.Proofs.Ytkakiblnhgpdnaa.Pure
