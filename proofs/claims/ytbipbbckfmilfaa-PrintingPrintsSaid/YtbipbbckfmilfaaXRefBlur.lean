/-
The reference's Blur answers the table of the rounded means. Conditions: as each theorem says.
-/
import Derived.Test.YtbipbbckfmilfaaXBlur
import Derived.Test.YtbipbbckfmilfaaPRx10
import Derived.Test.YtbipbbckfmilfaaPRx10
import Derived.Test.YtbipbbckfmilfaaPRx8
namespace Go.Proofs.Ytbipbbckfmilfaa.Pure
set_option linter.unusedVariables false
set_option linter.unusedSimpArgs false
open Go.RowKit Go.Proofs.Ytbipbbckfmilfaa.PR Go.Proofs.YtbipbbckfmilfaaW.PrintWords Go.Proofs.YtbipbbckfmilfaaW.PrintLast Go.Proofs.YtbipbbckfmilfaaW.PrintMore Go.Proofs.Ytbipbbckfmilfaa.XWords Go.Proofs.Ytbipbbckfmilfaa.XPure
theorem refEqualImage_eq {w h W H : Int} {l m : List Int} (hl : l.length ≤ 4194304) : Ev (fun k => barscanref31_EqualImage.f k w h l W H m) (sameAs w h l W H m) := by
  unfold barscanref31_EqualImage.f sameAs
  by_cases h1 : w = W
  · by_cases h2 : h = H
    · simp only [if_pos h1, if_pos h2, h1, h2, true_and]
      by_cases he : (l.length : Int) = m.length
      · have hb : ((l.length : Int) != (m.length : Int)) = false := by simpa using he
        rw [hb]
        refine Ev.step (f := fun k => barscanref31_EqualImage.l0 k 0 W H l W H m) (fun k => by simp [barscanref31_EqualImage.j0]) ?_
        refine ev_equal 0 l m (by omega) (fun k i => barscanref31_EqualImage.l0 k i W H l W H m) ?_ ?_ ?_
        · intro k i h0 h1 e
          simp only [barscanref31_EqualImage.l0]
          rw [if_pos h1, if_pos h0, if_pos (by omega), if_pos (show rd l i = rd m i from e), w64 (by omega)]
        · intro k i h0 h1 e
          simp only [barscanref31_EqualImage.l0]
          rw [if_pos h1, if_pos h0, if_pos (by omega), if_neg (show ¬ rd l i = rd m i from e)]
        · intro k
          simp only [barscanref31_EqualImage.l0]
          rw [if_neg (by omega)]
      · have hb : ((l.length : Int) != (m.length : Int)) = true := by simpa using he
        rw [hb, decide_eq_false (fun hh => he (by rw [hh]))]
        exact ev_end (fun k => by simp [barscanref31_EqualImage.j0])
    · simp only [if_pos h1, if_neg h2, h2, false_and, and_false, decide_false]
      exact ev_end (fun k => by simp [barscanref31_EqualImage.j0])
  · simp only [if_neg h1, h1, false_and, decide_false]
    exact ev_end (fun k => by simp [barscanref31_EqualImage.j0])
/-- How much darker than white a pixel is, below 0. -/
def gap (w h : Int) (l : List Int) (x y : Int) : Int := shade w h l x y - 255
theorem acc_clip {g : Int → Int} {a : Int} {m n : Nat} (h : m ≤ n) (hz : ∀ i, a + m ≤ i → i < a + n → g i = 0) : acc g a m = acc g a n := by
  obtain ⟨d, rfl⟩ := Nat.exists_eq_add_of_le h
  rw [acc_split, acc_zero (f := g) (a := a + m) (n := d) (fun i h1 h2 => hz i h1 (by omega))]
  omega
theorem acc_next (g : Int → Int) {a i : Int} (h : a ≤ i) : acc g a (i + 1 - a).toNat = acc g a (i - a).toNat + g i := by
  have e : (i + 1 - a).toNat = (i - a).toNat + 1 := by omega
  have e2 : a + (((i - a).toNat : Nat) : Int) = i := by omega
  rw [e, acc, e2]
theorem box_gap (w h : Int) (l : List Int) (n : Nat) (x y : Int) : boxSum w h l n x y = 255 * n * n + acc (fun j => acc (fun i => gap w h l i j) x n) y n := by
  have h1 : ∀ j, acc (fun i => shade w h l i j) x n = 255 * n + acc (fun i => gap w h l i j) x n := by
    intro j
    rw [← acc_const 255 x n, ← acc_plus]
    exact acc_congr (fun i _ _ => by unfold gap; omega)
  unfold boxSum
  rw [acc_congr (fun j _ _ => h1 j), acc_plus, acc_const]
theorem gap_range {w h : Int} {l : List Int} (hx : ∀ x ∈ l, 0 ≤ x ∧ x ≤ 255) (x y : Int) : -255 ≤ gap w h l x y ∧ gap w h l x y ≤ 0 := by
  have := shade_range (w := w) (h := h) hx x y
  unfold gap
  omega
theorem gap_out {w h : Int} {l : List Int} {x y : Int} (h0 : ¬ (0 ≤ x ∧ x < w ∧ 0 ≤ y ∧ y < h)) : gap w h l x y = 0 := by
  unfold gap shade
  rw [pix_out h0]; rfl
theorem mean_ok {w h : Int} {l : List Int} {r x y : Int} (V : Valid w h l.length) (hx : ∀ x ∈ l, 0 ≤ x ∧ x ≤ 255) (hr0 : 0 ≤ r) (hr : r ≤ 64) (hx0 : 0 ≤ x) (hxw : x < w) (hy0 : 0 ≤ y) (hyh : y < h) :
    Ev (fun k => barscanref43_mean.f k w h l x y r) (meanOf w h l r x y) := by
  obtain ⟨G1, G2, G3, G4, G5⟩ := id V.1
  have hl := V.2
  unfold barscanref43_mean.f
  have hNi : (((2 * r + 1).toNat : Nat) : Int) = 2 * r + 1 := by omega
  have hq0 : 0 ≤ (2 * r + 1) * (2 * r + 1) := Int.mul_nonneg (by omega) (by omega)
  have hq1 : (2 * r + 1) * (2 * r + 1) ≤ 129 * 129 := Int.mul_le_mul (by omega) (by omega) (by omega) (by omega)
  have hqp : 1 * 1 ≤ (2 * r + 1) * (2 * r + 1) := Int.mul_le_mul (by omega) (by omega) (by omega) (by omega)
  have hq2 : 2 * (2 * r + 1) * (2 * r + 1) = 2 * ((2 * r + 1) * (2 * r + 1)) := Int.mul_assoc _ _ _
  have hq3 : 255 * (2 * r + 1) * (2 * r + 1) = 255 * ((2 * r + 1) * (2 * r + 1)) := Int.mul_assoc _ _ _
  simp only [w64 (n := 2 * r) (by omega), w64 (n := 2 * r + 1) (by omega), w64 (n := 255 * (2 * r + 1)) (by omega), w64 (n := 255 * (2 * r + 1) * (2 * r + 1)) (by omega), w64 (n := y - r) (by omega)]
  have hbox := box_gap w h l (2 * r + 1).toNat (x - r) (y - r)
  rw [hNi] at hbox
  unfold meanOf
  rw [hbox]
  have hN2 : (2 * r + 1).toNat ≤ 129 := by omega
  -- one row of the box
  have hQ : ∀ j (n : Nat), n ≤ 129 → -(255 * 129) ≤ acc (fun i => gap w h l i j) (x - r) n ∧ acc (fun i => gap w h l i j) (x - r) n ≤ 0 := by
    intro j n hn
    have := acc_bound (a := x - r) (fun i => gap_range (w := w) (h := h) hx i j) n
    omega
  have hQQ : ∀ (n : Nat), n ≤ 129 → -(255 * 129 * 129) ≤ acc (fun j => acc (fun i => gap w h l i j) (x - r) (2 * r + 1).toNat) (y - r) n ∧ acc (fun j => acc (fun i => gap w h l i j) (x - r) (2 * r + 1).toNat) (y - r) n ≤ 0 := by
    intro n hn
    have := acc_bound (a := y - r) (fun j => hQ j _ hN2) n
    omega
  have a1 : 0 ≤ mx 0 (y - r) ∧ y - r ≤ mx 0 (y - r) ∧ mx 0 (y - r) ≤ y ∧ ∀ j, j < mx 0 (y - r) → y - r ≤ j → j < 0 := by unfold mx; split <;> exact ⟨by omega, by omega, by omega, fun j _ _ => by omega⟩
  have a2 : mn (h - 1) (y + r) ≤ h - 1 ∧ mn (h - 1) (y + r) ≤ y + r ∧ y ≤ mn (h - 1) (y + r) ∧ ∀ j, mn (h - 1) (y + r) < j → j ≤ y + r → h ≤ j := by unfold mn; split <;> exact ⟨by omega, by omega, by omega, fun j _ _ => by omega⟩
  have a3 : 0 ≤ mx 0 (x - r) ∧ x - r ≤ mx 0 (x - r) ∧ mx 0 (x - r) ≤ x ∧ ∀ j, j < mx 0 (x - r) → x - r ≤ j → j < 0 := by unfold mx; split <;> exact ⟨by omega, by omega, by omega, fun j _ _ => by omega⟩
  have a4 : mn (w - 1) (x + r) ≤ w - 1 ∧ mn (w - 1) (x + r) ≤ x + r ∧ x ≤ mn (w - 1) (x + r) ∧ ∀ j, mn (w - 1) (x + r) < j → j ≤ x + r → w ≤ j := by unfold mn; split <;> exact ⟨by omega, by omega, by omega, fun j _ _ => by omega⟩
  generalize hja : mx 0 (y - r) = ja at a1 ⊢
  generalize hjb : mn (h - 1) (y + r) = jb at a2
  generalize hia : mx 0 (x - r) = ia at a3
  generalize hib : mn (w - 1) (x + r) = ib at a4
  let Q : Int → Int := fun j => acc (fun i => gap w h l i j) (x - r) (2 * r + 1).toNat
  have eQ : (fun j => acc (fun i => gap w h l i j) (x - r) (2 * r + 1).toNat) = Q := rfl
  rw [eQ] at hQQ ⊢
  refine ev_loop (fun k j s => barscanref43_mean.l0 k x y r (2 * r + 1) s j w h l) ja (jb + 1) (by omega) (fun j s => s = 255 * (2 * r + 1) * (2 * r + 1) + acc Q (y - r) (j - (y - r)).toNat) _ ?_ ?_ _ ?_
  · intro j s hj1 hj2 hI K
    have hj0 := hQQ (j - (y - r)).toNat (by omega)
    refine Ev.step (f := fun k => barscanref43_mean.l1 k x y r (2 * r + 1) s j ia w h l) (fun k => ?_) ?_
    · simp only [barscanref43_mean.l0]
      rw [w64 (n := h - 1) (by omega), w64 (n := y + r) (by omega), hjb, if_pos (by omega), w64 (n := x - r) (by omega), hia]
    refine ev_loop (fun k i s => barscanref43_mean.l1 k x y r (2 * r + 1) s j i w h l) ia (ib + 1) (by omega) (fun i s => s = 255 * (2 * r + 1) * (2 * r + 1) + acc Q (y - r) (j - (y - r)).toNat + acc (fun i => gap w h l i j) (x - r) (i - (x - r)).toNat) _ ?_ ?_ _ ?_
    · intro i s hi1 hi2 hJ K2
      have hi0 := hQ j (i - (x - r)).toNat (by omega)
      have hp0 := row_nonneg (w := w) (u := i) (v := j) (by omega) (by omega) (by omega)
      have hp1 := row_lt (w := w) (h := h) (u := i) (v := j) (by omega) (by omega) (by omega) (by omega)
      have hjw : 0 ≤ j * w := Int.mul_nonneg (by omega) (by omega)
      have hsr := shade_range (w := w) (h := h) hx i j
      refine Ev.step (f := fun k => barscanref43_mean.l1 k x y r (2 * r + 1) (s - 255 + shade w h l i j) j (i + 1) w h l) (fun k => ?_) (K2 _ ?_)
      · simp only [barscanref43_mean.l1]
        rw [w64 (n := w - 1) (by omega), w64 (n := x + r) (by omega), hib, if_pos (by omega), w64 (n := j * w) (by omega), w64 (n := j * w + i) (by omega), if_pos hp0, if_pos (by omega), shade_rd V (by omega) (by omega) (by omega) (by omega), w64 (n := shade w h l i j) (by omega), w64 (n := s - 255) (by omega), w64 (n := s - 255 + shade w h l i j) (by omega), w64 (n := i + 1) (by omega)]
      · rw [acc_next _ (by omega), hJ]
        have : gap w h l i j = shade w h l i j - 255 := rfl
        omega
    · intro s hJ
      refine Ev.step (f := fun k => barscanref43_mean.l0 k x y r (2 * r + 1) s (j + 1) w h l) (fun k => ?_) (K _ ?_)
      · simp only [barscanref43_mean.l1]
        rw [w64 (n := w - 1) (by omega), w64 (n := x + r) (by omega), hib, if_neg (by omega), w64 (n := j + 1) (by omega)]
      · rw [acc_next Q (by omega), hJ, acc_clip (g := fun i => gap w h l i j) (a := x - r) (m := (ib + 1 - (x - r)).toNat) (n := (2 * r + 1).toNat) (by omega) (fun i h1 h2 => gap_out (by have := a4.2.2.2 i (by omega) (by omega); omega))]
        show _ = _ + (_ + Q j)
        have : Q j = acc (fun i => gap w h l i j) (x - r) (2 * r + 1).toNat := rfl
        omega
    · rw [acc_zero (f := fun i => gap w h l i j) (fun i h1 h2 => gap_out (by have := a3.2.2.2 i (by omega) h1; omega)), hI]
      omega
  · intro s hI
    have hf : acc Q (y - r) (jb + 1 - (y - r)).toNat = acc Q (y - r) (2 * r + 1).toNat := by
      refine acc_clip (by omega) (fun j h1 h2 => acc_zero (fun i _ _ => gap_out (by have := a2.2.2.2 j (by omega) (by omega); omega)))
    rw [hf] at hI
    have hb := hQQ (2 * r + 1).toNat hN2
    have hb2 : 0 ≤ boxSum w h l (2 * r + 1).toNat (x - r) (y - r) := by
      have h1 := acc_bound (a := y - r) (lo := 0) (hi := 255 * 129) (f := fun j => acc (fun i => shade w h l i j) (x - r) (2 * r + 1).toNat) (fun j => by
        have := acc_bound (a := x - r) (fun i => shade_range (w := w) (h := h) hx i j) (2 * r + 1).toNat
        omega) (2 * r + 1).toNat
      unfold boxSum
      omega
    rw [hbox, eQ, ← hI] at hb2
    rw [← hI]
    refine ev_end (fun k => ?_)
    have hd0 : 0 ≤ (2 * s + (2 * r + 1) * (2 * r + 1)) / (2 * (2 * r + 1) * (2 * r + 1)) := Int.ediv_nonneg (by omega) (by omega)
    have hd1 : (2 * s + (2 * r + 1) * (2 * r + 1)) / (2 * (2 * r + 1) * (2 * r + 1)) ≤ 2 * s + (2 * r + 1) * (2 * r + 1) := Int.ediv_le_self _ (by omega)
    simp only [barscanref43_mean.l0]
    rw [w64 (n := h - 1) (by omega), w64 (n := y + r) (by omega), hjb, if_neg (by omega), w64 (n := 2 * (2 * r + 1)) (by omega), w64 (n := 2 * (2 * r + 1) * (2 * r + 1)) (by omega), if_neg (by omega), w64 (n := 2 * s) (by omega), w64 (n := (2 * r + 1) * (2 * r + 1)) (by omega), w64 (n := 2 * s + (2 * r + 1) * (2 * r + 1)) (by omega), Int.tdiv_eq_ediv_of_nonneg (by omega), w64 (by omega)]
  · rw [acc_zero (f := Q) (fun j h1 h2 => acc_zero (fun i _ _ => gap_out (by have := a1.2.2.2 j (by omega) h1; omega)))]
    omega

theorem refBlur_ok {w h : Int} {l : List Int} {r : Int} (V : Valid w h l.length) (hx : ∀ x ∈ l, 0 ≤ x ∧ x ≤ 255) (hr0 : 0 ≤ r) (hr : r ≤ 64) :
    Ev (fun k => barscanref43_Blur.f k w h l r) (w, h, upto w (meanOf w h l r) (w * h).toNat, 0) := by
  obtain ⟨G1, G2, G3, G4, G5⟩ := id V.1
  have hp := V.1.pos
  have hl := V.2
  unfold barscanref43_Blur.f
  rw [validImage_eq, decide_eq_true V]
  simp only [Option.bind_some, if_true, if_neg (show ¬ r < 0 by omega)]
  refine Ev.step (f := fun k => barscanref43_Blur.l0 k r 0 w h l w h []) (fun k => ?_) ?_
  · simp only [barscanref43_Blur.j0]
    rw [if_neg (by simp; omega)]
  refine ev_loop (fun k i acc => barscanref43_Blur.l0 k r i w h l w h acc) 0 l.length (by omega) (fun i acc => acc = upto w (meanOf w h l r) i.toNat) _ ?_ ?_ _ (by simp [upto_zero])
  · intro i out hi0 hi hI K
    have m0 := Int.emod_nonneg i (show w ≠ 0 by omega)
    have m1 := Int.emod_lt_of_pos i (show 0 < w by omega)
    have m2 : 0 ≤ i / w := Int.ediv_nonneg hi0 (by omega)
    have m3 : i / w < h := div_lt (by omega) (by omega)
    have hlen : (out.length : Int) = i := by rw [hI, upto_length]; omega
    refine Ev.step (f := fun k => (barscanref43_mean.f k w h l (i % w) (i / w) r).bind fun t => if out.length < 140737488355328 then barscanref43_Blur.l0 k r (i + 1) w h l w h (out ++ [t]) else none) (fun k => ?_) (Ev.bind (mean_ok V hx hr0 hr m0 m1 m2 m3) ?_)
    · simp only [barscanref43_Blur.l0]
      rw [if_pos hi, if_neg (by omega), Int.tmod_eq_emod_of_nonneg hi0, Int.tdiv_eq_ediv_of_nonneg hi0, w64 (n := i / w) (by omega), w64 (n := i + 1) (by omega)]
    · simp only [if_pos (show out.length < 140737488355328 by omega)]
      refine K _ ?_
      have e : (i + 1).toNat = i.toNat + 1 := by omega
      rw [e, upto_push (u := i % w) (v := i / w) m0 m1 (by rw [mod_div (by omega)]; omega), hI]
  · intro out hI
    refine ev_end (fun k => ?_)
    simp only [barscanref43_Blur.l0]
    rw [if_neg (by omega), hI]
    have : ((l.length : Nat) : Int).toNat = (w * h).toNat := by omega
    rw [this]
theorem refBlur_bad {w h : Int} {l : List Int} {r : Int} (B : ¬ Valid w h l.length) : ∀ k, barscanref43_Blur.f k w h l r = some (0, 0, [], 1) := by
  intro k
  unfold barscanref43_Blur.f
  rw [validImage_eq, decide_eq_false B]
  rfl
theorem refBlur_range {w h : Int} {l : List Int} {r : Int} (V : Valid w h l.length) (B : ¬ (0 ≤ r ∧ r ≤ 64)) : Ev (fun k => barscanref43_Blur.f k w h l r) (0, 0, [], 3) := by
  unfold barscanref43_Blur.f
  rw [validImage_eq, decide_eq_true V]
  simp only [Option.bind_some, if_true]
  by_cases h0 : r < 0
  · simp only [if_pos h0]
    exact ev_end (fun k => by simp only [barscanref43_Blur.j0]; rfl)
  · simp only [if_neg h0]
    exact ev_end (fun k => by simp only [barscanref43_Blur.j0]; rw [if_pos (by simp; omega)])
theorem equal43_self {w h : Int} {l : List Int} (hl : l.length ≤ 4194304) : Ev (fun k => barscanlaw43_equal.f k w h l w h l) true := by
  unfold barscanlaw43_equal.f
  have := refEqualImage_eq (w := w) (h := h) (W := w) (H := h) (l := l) (m := l) hl
  rw [sameAs_self] at this
  exact Ev.bind this (Ev.now _)
end Go.Proofs.Ytbipbbckfmilfaa.Pure
