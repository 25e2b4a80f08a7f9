/-
Means lie between the least and the greatest value of their boxes; a radius of 0 changes nothing. Conditions: as each theorem says.
-/
import Derived.Test.YtbipbbckfmilfaaXBlur
namespace Go.Proofs.Ytbipbbckfmilfaa.Pure
set_option linter.unusedVariables false
set_option linter.unusedSimpArgs false
open Go.RowKit Go.Proofs.Ytbipbbckfmilfaa.PR Go.Proofs.YtbipbbckfmilfaaW.PrintWords Go.Proofs.YtbipbbckfmilfaaW.PrintLast Go.Proofs.YtbipbbckfmilfaaW.PrintMore Go.Proofs.Ytbipbbckfmilfaa.XWords Go.Proofs.Ytbipbbckfmilfaa.XPure
theorem acc_between {f : Int → Int} {a lo hi : Int} : ∀ {n : Nat}, (∀ i, a ≤ i → i < a + n → lo ≤ f i ∧ f i ≤ hi) → lo * n ≤ acc f a n ∧ acc f a n ≤ hi * n
  | 0, _ => by simp [acc]
  | n + 1, h => by
    obtain ⟨h1, h2⟩ := acc_between (n := n) (fun i hi0 hi1 => h i hi0 (by omega))
    obtain ⟨h3, h4⟩ := h (a + n) (by omega) (by omega)
    have e1 : lo * ((n + 1 : Nat) : Int) = lo * n + lo := by rw [Int.natCast_add, Int.mul_add]; simp
    have e2 : hi * ((n + 1 : Nat) : Int) = hi * n + hi := by rw [Int.natCast_add, Int.mul_add]; simp
    have e3 : acc f a (n + 1) = acc f a n + f (a + n) := rfl
    omega
/-- The mean of a box whose values lie between two bounds lies between them. -/
theorem mean_between {w h : Int} {l : List Int} {r u v lo hi : Int} (hr0 : 0 ≤ r) (hr : r ≤ 64) (hlo : 0 ≤ lo) (hhi : hi ≤ 255)
    (hb : ∀ x y, u - r ≤ x → x ≤ u + r → v - r ≤ y → y ≤ v + r → lo ≤ shade w h l x y ∧ shade w h l x y ≤ hi) : lo ≤ meanOf w h l r u v ∧ meanOf w h l r u v ≤ hi := by
  have en : (((2 * r + 1).toNat : Nat) : Int) = 2 * r + 1 := by omega
  have hS : lo * (2 * r + 1) * (2 * r + 1) ≤ boxSum w h l (2 * r + 1).toNat (u - r) (v - r) ∧ boxSum w h l (2 * r + 1).toNat (u - r) (v - r) ≤ hi * (2 * r + 1) * (2 * r + 1) := by
    have := acc_between (f := fun j => acc (fun i => shade w h l i j) (u - r) (2 * r + 1).toNat) (a := v - r) (lo := lo * (2 * r + 1)) (hi := hi * (2 * r + 1)) (n := (2 * r + 1).toNat) (fun j hj0 hj1 => by
      have := acc_between (f := fun i => shade w h l i j) (a := u - r) (lo := lo) (hi := hi) (n := (2 * r + 1).toNat) (fun i hi0 hi1 => hb i j hi0 (by omega) hj0 (by omega))
      rw [en] at this
      exact this)
    rw [en] at this
    exact this
  unfold meanOf
  generalize boxSum w h l (2 * r + 1).toNat (u - r) (v - r) = S at hS
  have hN : 0 < (2 * r + 1) * (2 * r + 1) := Int.mul_pos (by omega) (by omega)
  rw [Int.mul_assoc lo, Int.mul_assoc hi] at hS
  rw [Int.mul_assoc 2]
  generalize (2 * r + 1) * (2 * r + 1) = M at hS hN
  have h1 : lo ≤ (2 * S + M) / (2 * M) := by
    rw [Int.le_ediv_iff_mul_le (by omega)]
    have : lo * (2 * M) = 2 * (lo * M) := by rw [Int.mul_left_comm]
    omega
  have h2 : (2 * S + M) / (2 * M) ≤ hi := by
    have : (2 * S + M) / (2 * M) < hi + 1 := by
      rw [Int.ediv_lt_iff_lt_mul (by omega)]
      have e : (hi + 1) * (2 * M) = 2 * (hi * M) + 2 * M := by rw [Int.add_mul, Int.one_mul, Int.mul_left_comm]
      omega
    omega
  rw [Int.emod_eq_of_lt (by omega) (by omega)]
  exact ⟨h1, h2⟩
theorem mean_zero {w h : Int} {l : List Int} (V : Valid w h l.length) (hx : ∀ x ∈ l, 0 ≤ x ∧ x ≤ 255) : upto w (meanOf w h l 0) (w * h).toNat = l := by
  refine (upto_of (d := 255) (by have := V.1.1; omega) V.2 (fun u v hu0 hu1 hv0 hv1 => ?_)).symm
  have hs := shade_range (w := w) (h := h) hx u v
  have e : shade w h l u v = l.getD (v * w + u).toNat 255 := pix_in hu0 hu1 hv0 hv1
  have hm := mean_between (w := w) (h := h) (l := l) (r := 0) (u := u) (v := v) (lo := shade w h l u v) (hi := shade w h l u v) (by omega) (by omega) hs.1 hs.2 (fun x y h1 h2 h3 h4 => by
    obtain rfl : x = u := by omega
    obtain rfl : y = v := by omega
    exact ⟨Int.le_refl _, Int.le_refl _⟩)
  rw [← e]
  omega
theorem mean_range {w h : Int} {l : List Int} {r : Int} {n : Nat} : ∀ x ∈ upto w (meanOf w h l r) n, 0 ≤ x ∧ x ≤ 255 := by
  intro x hx
  unfold upto at hx
  obtain ⟨i, _, rfl⟩ := List.mem_map.1 hx
  unfold meanOf
  omega
end Go.Proofs.Ytbipbbckfmilfaa.Pure
