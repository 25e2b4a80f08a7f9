/-
The reference's count of a box. Conditions: as each theorem says.
-/
import Derived.Test.YtkakiblnhgpdnaaXOps
import Derived.Test.YtkakiblnhgpdnaaPRx10
import Derived.Test.YtkakiblnhgpdnaaPRx10
namespace Go.Proofs.Ytkakiblnhgpdnaa.Pure
set_option linter.unusedVariables false
set_option linter.unusedSimpArgs false
open Go.RowKit Go.Proofs.Ytkakiblnhgpdnaa.PR Go.Proofs.YtkakiblnhgpdnaaW.PrintWords Go.Proofs.YtkakiblnhgpdnaaW.PrintLast Go.Proofs.YtkakiblnhgpdnaaW.PrintMore Go.Proofs.Ytkakiblnhgpdnaa.XWords Go.Proofs.Ytkakiblnhgpdnaa.XPure
theorem acc_between {g : Int → Int} {a : Int} {m n : Nat} (hz : ∀ u, a + (min m n : Nat) ≤ u → u < a + (max m n : Nat) → g u = 0) : acc g a m = acc g a n := by
  by_cases h : m ≤ n
  · exact acc_clip h (fun u h1 h2 => hz u (by omega) (by omega))
  · exact (acc_clip (by omega) (fun u h1 h2 => hz u (by omega) (by omega))).symm
theorem count_ok {w h : Int} {l : List Bool} {x y r s : Int} (V : Valid w h l.length) (hr : Rad r) (hs : Rad s) (hx : -20000 ≤ x ∧ x ≤ 20000) (hy : -20000 ≤ y ∧ y ≤ 20000) :
    Ev (fun k => barscanref37_count.f k w h l x y r s) (around (pix false w h l) r s x y) := by
  obtain ⟨G1, G2, G3, G4, G5⟩ := id V.1
  have hl := V.2
  obtain ⟨hr0, hr2⟩ := hr
  obtain ⟨hs0, hs2⟩ := hs
  have hout : ∀ u v, ¬ (0 ≤ u ∧ u < w ∧ 0 ≤ v ∧ v < h) → bit (pix false w h l u v) = 0 := fun u v h0 => by rw [pix_out h0]; rfl
  unfold barscanref37_count.f
  rw [w64 (n := y - s) (by omega), mx_max]
  unfold around cnt
  generalize hF : (fun v => acc (fun u => bit (pix false w h l u v)) (x - r) (2 * r + 1).toNat) = F
  have hF0 : ∀ v, ¬ (0 ≤ v ∧ v < h) → F v = 0 := fun v hv => by rw [← hF]; exact acc_zero (fun u _ _ => hout u v (by omega))
  have hFb : ∀ v, 0 ≤ F v ∧ F v ≤ 8193 := fun v => by
    have := row_range (pix false w h l) (x - r) (2 * r + 1).toNat v
    rw [← hF]
    show 0 ≤ acc (fun u => bit (pix false w h l u v)) (x - r) (2 * r + 1).toNat ∧ acc (fun u => bit (pix false w h l u v)) (x - r) (2 * r + 1).toNat ≤ 8193
    omega
  have hFF : ∀ n : Nat, n ≤ 60000 → 0 ≤ acc F (y - s) n ∧ acc F (y - s) n ≤ 8193 * 60000 := fun n hn => by
    have := acc_bound (a := y - s) hFb n
    omega
  refine ev_scan (fun k j c => barscanref37_count.l0 k x y r s c j w h l) (max 0 (y - s)) (min (h - 1) (y + s)) (fun j c => c = acc F (y - s) (j - (y - s)).toNat) _ ?_ ?_ _ ?_
  · intro j c hj1 hj2 hI K
    have hj0 := hFF (j - (y - s)).toNat (by omega)
    refine Ev.step (f := fun k => barscanref37_count.l1 k x y r s c j (max 0 (x - r)) w h l) (fun k => ?_) ?_
    · simp only [barscanref37_count.l0]
      rw [w64 (n := h - 1) (by omega), w64 (n := y + s) (by omega), mn_min, if_pos (by omega), w64 (n := x - r) (by omega), mx_max]
    have hfj : F j = acc (fun u => bit (pix false w h l u j)) (x - r) (2 * r + 1).toNat := by rw [← hF]
    refine ev_scan (fun k i c => barscanref37_count.l1 k x y r s c j i w h l) (max 0 (x - r)) (min (w - 1) (x + r)) (fun i d => d = c + acc (fun u => bit (pix false w h l u j)) (x - r) (i - (x - r)).toNat) _ ?_ ?_ _ ?_
    · intro i d hi1 hi2 hJ K2
      obtain ⟨s1, s2, s3, s4, s5, s6, s7⟩ := V.spot (x := i) (y := j) (by omega) (by omega) (by omega) (by omega)
      have hrow := row_range (pix false w h l) (x - r) (i - (x - r)).toNat j
      have hbit := bit_range (pix false w h l i j)
      have hrd : rdOf false l (j * w + i) = pix false w h l i j := by rw [pix_in (by omega) (by omega) (by omega) (by omega)]; rfl
      refine Ev.step (f := fun k => barscanref37_count.l1 k x y r s (d + bit (pix false w h l i j)) j (i + 1) w h l) (fun k => ?_) (K2 _ ?_)
      · simp only [barscanref37_count.l1]
        rw [w64 (n := w - 1) (by omega), w64 (n := x + r) (by omega), mn_min, if_pos (by omega), s1, s2, if_pos s4, if_pos s5, hrd, w64 (n := i + 1) (by omega)]
        by_cases hd : pix false w h l i j = true
        · rw [if_pos hd, bit_one.2 hd, w64 (n := d + 1) (by omega)]
        · rw [if_neg hd, show bit (pix false w h l i j) = 0 from if_neg hd, Int.add_zero]
      · rw [acc_next _ (by omega), hJ]
        omega
    · intro i d hi1 hi2 hi3 hJ
      refine Ev.step (f := fun k => barscanref37_count.l0 k x y r s d (j + 1) w h l) (fun k => ?_) (K _ ?_)
      · simp only [barscanref37_count.l1]
        rw [w64 (n := w - 1) (by omega), w64 (n := x + r) (by omega), mn_min, if_neg (by omega), w64 (n := j + 1) (by omega)]
      · rw [acc_next F (by omega), hJ, hI, hfj]
        rw [acc_between (g := fun u => bit (pix false w h l u j)) (a := x - r) (m := (i - (x - r)).toNat) (n := (2 * r + 1).toNat) (fun u h1 h2 => hout u j (by omega))]
    · rw [acc_zero (f := fun u => bit (pix false w h l u j)) (fun u h1 h2 => hout u j (by omega))]
      omega
  · intro j c hj1 hj2 hj3 hI
    refine ev_end (fun k => ?_)
    simp only [barscanref37_count.l0]
    rw [w64 (n := h - 1) (by omega), w64 (n := y + s) (by omega), mn_min, if_neg (by omega), hI]
    exact congrArg some (acc_between (fun v h1 h2 => hF0 v (by omega)))
  · exact (acc_zero (fun v h1 h2 => hF0 v (by omega))).symm
theorem area_eq {r s : Int} (hr : Rad r) (hs : Rad s) : barscanref37_area.f r s = some ((2 * r + 1) * (2 * s + 1)) := by
  obtain ⟨hr0, hr2⟩ := hr
  obtain ⟨hs0, hs2⟩ := hs
  have h1 : 0 ≤ (2 * r + 1) * (2 * s + 1) := Int.mul_nonneg (by omega) (by omega)
  have h2 : (2 * r + 1) * (2 * s + 1) ≤ 8193 * 8193 := Int.mul_le_mul (by omega) (by omega) (by omega) (by omega)
  unfold barscanref37_area.f
  rw [w64 (n := 2 * r) (by omega), w64 (n := 2 * s) (by omega), w64 (n := 2 * r + 1) (by omega), w64 (n := 2 * s + 1) (by omega), w64 (by omega)]

end Go.Proofs.Ytkakiblnhgpdnaa.Pure
