/-
Majority's reference, and Outline and its reference, told by pixels. Conditions: as each theorem says.
-/
import Derived.Test.YtkakiblnhgpdnaaXCount
import Derived.Test.YtkakiblnhgpdnaaPRx16
import Derived.Test.YtkakiblnhgpdnaaPRx17
import Derived.Test.YtkakiblnhgpdnaaXEdge
namespace Go.Proofs.Ytkakiblnhgpdnaa.Pure
set_option linter.unusedVariables false
set_option linter.unusedSimpArgs false
open Go.RowKit Go.Proofs.Ytkakiblnhgpdnaa.PR Go.Proofs.YtkakiblnhgpdnaaW.PrintWords Go.Proofs.YtkakiblnhgpdnaaW.PrintLast Go.Proofs.YtkakiblnhgpdnaaW.PrintMore Go.Proofs.Ytkakiblnhgpdnaa.XWords Go.Proofs.Ytkakiblnhgpdnaa.XPure

theorem refMajority_ok {w h : Int} {l : List Bool} {r : Int} (V : Valid w h l.length) (hr : Rad r) : Ev (fun k => barscanref37_Majority.f k w h l r) (w, h, upto w (fun x y => decide (2 * around (pix false w h l) r r x y > (2 * r + 1) * (2 * r + 1))) (w * h).toNat, 0) := by
  obtain ⟨G1, G2, G3, G4, G5⟩ := id V.1
  have hl := V.2
  unfold barscanref37_Majority.f
  rw [refCheck37_eq, if_pos V, if_pos ⟨hr, hr⟩]
  simp only [Option.bind_some, if_true]
  refine ev_loop (fun k i acc => barscanref37_Majority.l0 k r i w h l w h acc) 0 l.length (by omega) (fun i acc => acc = upto w (fun x y => decide (2 * around (pix false w h l) r r x y > (2 * r + 1) * (2 * r + 1))) i.toNat) _ ?_ ?_ _ (by simp [upto_zero])
  · intro i acc hi0 hi hI K
    have m0 := Int.emod_nonneg i (show w ≠ 0 by omega)
    have m1 := Int.emod_lt_of_pos i (show 0 < w by omega)
    have m2 : 0 ≤ i / w := Int.ediv_nonneg hi0 (by omega)
    have m3 : i / w < h := div_lt (by omega) (by omega)
    have hacc : acc.length = i.toNat := by rw [hI, upto_length]
    have e : (i + 1).toNat = i.toNat + 1 := by omega
    have hnext : upto w (fun x y => decide (2 * around (pix false w h l) r r x y > (2 * r + 1) * (2 * r + 1))) (i + 1).toNat = acc ++ [(fun x y => decide (2 * around (pix false w h l) r r x y > (2 * r + 1) * (2 * r + 1))) (i % w) (i / w)] := by rw [e, upto_push (u := i % w) (v := i / w) m0 m1 (by rw [mod_div (by omega)]; omega), hI]
    refine Ev.step (f := fun k => (barscanref37_count.f k w h l (i % w) (i / w) r r).bind fun t => if acc.length < 140737488355328 then barscanref37_Majority.l0 k r (i + 1) w h l w h (acc ++ [decide (wrap64 (2 * t) > (2 * r + 1) * (2 * r + 1))]) else none) (fun k => ?_) (Ev.bind (count_ok V hr hr (by omega) (by omega)) ?_)
    · simp only [barscanref37_Majority.l0]
      rw [if_pos hi, if_neg (by omega), Int.tmod_eq_emod_of_nonneg hi0, Int.tdiv_eq_ediv_of_nonneg hi0, w64 (n := i / w) (by omega), w64 (n := i + 1) (by omega), area_eq hr hr]
      try rfl
    · simp only [if_pos (show acc.length < 140737488355328 by omega)]
      refine K _ ?_
      have har := around_range (D := pix false w h l) (r := r) (s := r) (x := i % w) (y := i / w) hr.1 hr.2 hr.1 hr.2
      rw [hnext, w64 (n := 2 * around (pix false w h l) r r (i % w) (i / w)) (by omega)]
  · intro acc hI
    refine ev_end (fun k => ?_)
    simp only [barscanref37_Majority.l0]
    have e : ((l.length : Nat) : Int).toNat = (w * h).toNat := by omega
    rw [if_neg (by omega), hI, e]


theorem refMajority_bad {w h : Int} {l : List Bool} {r : Int} (B : ¬ (Valid w h l.length ∧ Rad r)) : ∀ k, barscanref37_Majority.f k w h l r = some (0, 0, [], if Valid w h l.length then 3 else 1) := by
  unfold barscanref37_Majority.f
  rw [refCheck37_eq]
  by_cases V : Valid w h l.length
  · have hR : ¬ (Rad r ∧ Rad r) := fun hh => B ⟨V, hh.1⟩
    simp only [if_pos V, if_neg hR]
    exact fun k => rfl
  · simp only [if_neg V]
    exact fun k => rfl
theorem refOutline_ok {w h : Int} {l : List Bool} (V : Valid w h l.length) : Ev (fun k => barscanref37_Outline.f k w h l) (w, h, upto w (fun x y => (pix false w h l x y && !inn w h l x y)) (w * h).toNat, 0) := by
  obtain ⟨G1, G2, G3, G4, G5⟩ := id V.1
  have hl := V.2
  unfold barscanref37_Outline.f
  rw [refCheck37_eq, if_pos V, if_pos ⟨show Rad 0 from ⟨by decide, by decide⟩, show Rad 0 from ⟨by decide, by decide⟩⟩]
  simp only [Option.bind_some, if_true]
  refine ev_loop (fun k i acc => barscanref37_Outline.l0 k i w h l w h acc) 0 l.length (by omega) (fun i acc => acc = upto w (fun x y => (pix false w h l x y && !inn w h l x y)) i.toNat) _ ?_ ?_ _ (by simp [upto_zero])
  · intro i acc hi0 hi hI K
    have m0 := Int.emod_nonneg i (show w ≠ 0 by omega)
    have m1 := Int.emod_lt_of_pos i (show 0 < w by omega)
    have m2 : 0 ≤ i / w := Int.ediv_nonneg hi0 (by omega)
    have m3 : i / w < h := div_lt (by omega) (by omega)
    have hacc : acc.length = i.toNat := by rw [hI, upto_length]
    have e : (i + 1).toNat = i.toNat + 1 := by omega
    have hnext : upto w (fun x y => (pix false w h l x y && !inn w h l x y)) (i + 1).toNat = acc ++ [(fun x y => (pix false w h l x y && !inn w h l x y)) (i % w) (i / w)] := by rw [e, upto_push (u := i % w) (v := i / w) m0 m1 (by rw [mod_div (by omega)]; omega), hI]
    have hrd : rdOf false l i = pix false w h l (i % w) (i / w) := by
      rw [pix_in m0 m1 m2 m3, mod_div (by omega)]
      rfl
    refine Ev.step (f := fun k => if acc.length < 140737488355328 then barscanref37_Outline.l0 k (i + 1) w h l w h (acc ++ [pix false w h l (i % w) (i / w) && !inn w h l (i % w) (i / w)]) else none) (fun k => ?_) ?_
    · simp only [barscanref37_Outline.l0]
      rw [if_pos hi, if_neg (by omega), Int.tmod_eq_emod_of_nonneg hi0, Int.tdiv_eq_ediv_of_nonneg hi0, w64 (n := i / w) (by omega), w64 (n := i + 1) (by omega)]
      simp only [refAt_eq, if_pos V, Option.bind_some, if_pos hi0, hrd]
      rw [w64 (n := i % w - 1) (by omega), w64 (n := i % w + 1) (by omega), w64 (n := i / w - 1) (by omega), w64 (n := i / w + 1) (by omega)]
      unfold inn
      generalize pix false w h l (i % w - 1) (i / w) = b1
      generalize pix false w h l (i % w + 1) (i / w) = b2
      generalize pix false w h l (i % w) (i / w - 1) = b3
      generalize pix false w h l (i % w) (i / w + 1) = b4
      generalize pix false w h l (i % w) (i / w) = b5
      cases b1 <;> cases b2 <;> cases b3 <;> cases b4 <;> cases b5 <;> simp
    · simp only [if_pos (show acc.length < 140737488355328 by omega)]
      refine K _ ?_
      rw [hnext]
  · intro acc hI
    refine ev_end (fun k => ?_)
    simp only [barscanref37_Outline.l0]
    have e : ((l.length : Nat) : Int).toNat = (w * h).toNat := by omega
    rw [if_neg (by omega), hI, e]


theorem refOutline_bad {w h : Int} {l : List Bool} (B : ¬ Valid w h l.length) : ∀ k, barscanref37_Outline.f k w h l = some (0, 0, [], 1) := by
  unfold barscanref37_Outline.f
  rw [refCheck37_eq]
  simp only [if_neg B]
  exact fun k => rfl
end Go.Proofs.Ytkakiblnhgpdnaa.Pure
