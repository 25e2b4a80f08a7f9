/-
What the small functions of raster and of its reference answer, in plain numbers. Conditions: as each theorem says.
-/
import Derived.Test.YtcmcmoaikabfoaaPRx4
import Derived.Test.YtcmcmoaikabfoaaPRx3
import Derived.Test.YtcmcmoaikabfoaaPRx3
import Derived.Test.YtcmcmoaikabfoaaXPure
namespace Go.Proofs.Ytcmcmoaikabfoaa.Pure
set_option linter.unusedVariables false
set_option linter.unusedSimpArgs false
open Go.RowKit Go.Proofs.Ytcmcmoaikabfoaa.PR Go.Proofs.YtcmcmoaikabfoaaW.PrintWords Go.Proofs.YtcmcmoaikabfoaaW.PrintLast Go.Proofs.YtcmcmoaikabfoaaW.PrintMore Go.Proofs.Ytcmcmoaikabfoaa.XWords Go.Proofs.Ytcmcmoaikabfoaa.XPure

/-- The sizes that bitmaps have. -/
def Fits (w h : Int) : Prop := 1 ≤ w ∧ w ≤ 4096 ∧ 1 ≤ h ∧ h ≤ 4096 ∧ w * h ≤ 4194304
instance (w h : Int) : Decidable (Fits w h) := by unfold Fits; infer_instance
/-- A valid bitmap or image. -/
def Valid (w h : Int) (n : Nat) : Prop := Fits w h ∧ (n : Int) = w * h
instance (w h : Int) (n : Nat) : Decidable (Valid w h n) := by unfold Valid; infer_instance

theorem mul_bound {w h : Int} (h1 : 1 ≤ w) (h2 : w ≤ 4096) (h3 : 1 ≤ h) (h4 : h ≤ 4096) : 1 ≤ w * h ∧ w * h ≤ 16777216 := by
  have a : 1 * 1 ≤ w * h := Int.mul_le_mul h1 h3 (by omega) (by omega)
  have b : w * h ≤ 4096 * 4096 := Int.mul_le_mul h2 h4 (by omega) (by omega)
  omega
theorem Fits.pos {w h : Int} (F : Fits w h) : 1 ≤ w * h := (mul_bound F.1 F.2.1 F.2.2.1 F.2.2.2.1).1
theorem w64_mul {w h : Int} (h1 : 1 ≤ w) (h2 : w ≤ 4096) (h3 : 1 ≤ h) (h4 : h ≤ 4096) : wrap64 (w * h) = w * h := by
  have := mul_bound h1 h2 h3 h4
  exact w64 (by omega)
theorem Fits.w64 {w h : Int} (F : Fits w h) : wrap64 (w * h) = w * h := w64_mul F.1 F.2.1 F.2.2.1 F.2.2.2.1

theorem possible_eq (w h : Int) : raster_possible.f w h = some (decide (Fits w h)) := by
  unfold raster_possible.f Fits
  by_cases h1 : w ≥ 1
  · by_cases h2 : w ≤ 4096
    · by_cases h3 : h ≥ 1
      · by_cases h4 : h ≤ 4096
        · rw [if_pos h1, if_pos h2, if_pos h3, if_pos h4, w64_mul h1 h2 h3 h4]
          have h1' : 1 ≤ w := h1
          have h3' : 1 ≤ h := h3
          simp [h1', h2, h3', h4]
        · simp [h1, h2, h3, h4]
      · simp [h1, h2, h3]
    · simp [h1, h2]
  · simp [h1]
theorem fits_eq (w h : Int) : barscanref31_fits.f w h = some (decide (Fits w h)) := possible_eq w h
theorem check_eq (w h : Int) (l : List Bool) : raster_Check.f w h l = some (if Valid w h l.length then 0 else 1) := by
  unfold raster_Check.f Valid
  rw [possible_eq]
  by_cases F : Fits w h
  · simp only [decide_eq_true F, Option.bind_some, if_true, F.w64, F, true_and]
    by_cases h1 : (l.length : Int) = w * h
    · rw [if_pos h1, if_pos h1]; rfl
    · rw [if_neg h1, if_neg h1]; rfl
  · simp [F]
theorem valid_eq (w h : Int) (l : List Bool) : barscanref31_Valid.f w h l = some (decide (Valid w h l.length)) := by
  unfold barscanref31_Valid.f Valid
  rw [fits_eq]
  by_cases F : Fits w h
  · simp only [decide_eq_true F, Option.bind_some, if_true, F.w64, F, true_and]
    rfl
  · simp [F]
theorem new_eq (w h : Int) : raster_New.f w h = some (if Fits w h then (w, h, List.replicate (w * h).toNat false, 0) else (0, 0, [], 23)) := by
  unfold raster_New.f
  rw [possible_eq]
  by_cases F : Fits w h
  · have := F.pos
    have := F.2.2.2.2
    simp only [decide_eq_true F, Option.bind_some, if_true, F.w64, if_pos F]
    rw [if_pos (by omega), if_pos (by omega)]
  · simp [F]
theorem small_eq (w h : Int) : barscanlaw31_small.f w h = some (decide (w < 1 ∨ h < 1 ∨ w > 4096 ∨ h > 4096 ∨ w * h ≤ 40000)) := by
  unfold barscanlaw31_small.f
  by_cases h1 : w < 1
  · simp [h1]
  · by_cases h2 : h < 1
    · simp [h1, h2]
    · by_cases h3 : w > 4096
      · simp [h1, h2, h3]
      · by_cases h4 : h > 4096
        · simp [h1, h2, h3, h4]
        · rw [if_neg h1, if_neg h2, if_neg h3, if_neg h4, w64_mul (by omega) (by omega) (by omega) (by omega)]
          simp [h1, h2, h3, h4]

/-- A pixel of a table; those outside have the default. -/
def pix {α : Type} (d : α) (w h : Int) (l : List α) (x y : Int) : α := if 0 ≤ x ∧ x < w ∧ 0 ≤ y ∧ y < h then l.getD (y * w + x).toNat d else d
theorem pix_in {α : Type} {d : α} {w h : Int} {l : List α} {x y : Int} (h1 : 0 ≤ x) (h2 : x < w) (h3 : 0 ≤ y) (h4 : y < h) : pix d w h l x y = l.getD (y * w + x).toNat d := if_pos ⟨h1, h2, h3, h4⟩
theorem pix_out {α : Type} {d : α} {w h : Int} {l : List α} {x y : Int} (h0 : ¬ (0 ≤ x ∧ x < w ∧ 0 ≤ y ∧ y < h)) : pix d w h l x y = d := if_neg h0
theorem Valid.spot {w h : Int} {n : Nat} (V : Valid w h n) {x y : Int} (h1 : 0 ≤ x) (h2 : x < w) (h3 : 0 ≤ y) (h4 : y < h) :
    wrap64 (y * w) = y * w ∧ wrap64 (y * w + x) = y * w + x ∧ 0 ≤ y * w ∧ 0 ≤ y * w + x ∧ y * w + x < n ∧ y * w + w ≤ n ∧ (n : Int) ≤ 4194304 := by
  have a : 0 ≤ y * w := Int.mul_nonneg h3 (by omega)
  have b := row_lt (w := w) (h := h) h2 h1 h4 h3
  have c := row_lt (w := w) (h := h) (u := w - 1) (by omega) (by omega) h4 h3
  have d := V.2
  have e := V.1.2.2.2.2
  refine ⟨w64 ?_, w64 ?_, ?_⟩ <;> omega
theorem at_eq {w h : Int} {l : List Bool} (V : Valid w h l.length) (x y : Int) : raster_at.f w h l x y = some (pix false w h l x y) := by
  unfold raster_at.f
  by_cases h1 : x ≥ 0
  · by_cases h2 : x < w
    · by_cases h3 : y ≥ 0
      · by_cases h4 : y < h
        · obtain ⟨e1, e2, e3, e4, e5, _⟩ := V.spot h1 h2 h3 h4
          rw [if_pos h1, if_pos h2, if_pos h3, if_pos h4, e1, e2, if_pos e4, if_pos e5, pix_in h1 h2 h3 h4]
          rfl
        · rw [if_pos h1, if_pos h2, if_pos h3, if_neg h4, pix_out (by omega)]
      · rw [if_pos h1, if_pos h2, if_neg h3, pix_out (by omega)]
    · rw [if_pos h1, if_neg h2, pix_out (by omega)]
  · rw [if_neg h1, pix_out (by omega)]
theorem refAt_eq (w h : Int) (l : List Bool) (x y : Int) : barscanref31_At.f w h l x y = some (if Valid w h l.length then pix false w h l x y else false) := by
  unfold barscanref31_At.f
  rw [valid_eq]
  by_cases V : Valid w h l.length
  · have := at_eq V x y
    unfold raster_at.f at this
    simp only [decide_eq_true V, Option.bind_some, if_true, if_pos V]
    exact this
  · simp [V]
theorem At_eq (w h : Int) (l : List Bool) (x y : Int) : raster_At.f w h l x y = some (if Valid w h l.length then pix false w h l x y else false) := by
  unfold raster_At.f
  rw [check_eq]
  by_cases V : Valid w h l.length
  · rw [if_pos V, if_pos V, Option.bind_some, if_pos rfl, at_eq V]
    rfl
  · rw [if_neg V, if_neg V, Option.bind_some, if_neg (by decide)]

theorem equal_self (w h : Int) (l : List Bool) (hl : l.length ≤ 4194304) : Ev (fun k => barscanref31_Equal.f k w h l w h l) true := by
  unfold barscanref31_Equal.f
  simp only [if_true]
  refine Ev.step (f := fun k => barscanref31_Equal.l0 k 0 w h l w h l) (fun k => ?_) ?_
  · simp only [barscanref31_Equal.j0, bne_self_eq_false]
    rfl
  refine ev_loop (fun k i (_ : Unit) => barscanref31_Equal.l0 k i w h l w h l) 0 l.length (by omega) (fun _ _ => True) _ ?_ ?_ () trivial
  · intro i s hi hil _ K
    refine Ev.step (f := fun k => barscanref31_Equal.l0 k (i + 1) w h l w h l) (fun k => ?_) (K () trivial)
    simp only [barscanref31_Equal.l0]
    rw [if_pos hil, if_pos hi, if_pos hil, w64 (by omega), bne_self_eq_false]
    rfl
  · intro s _
    refine ev_end (fun k => ?_)
    simp only [barscanref31_Equal.l0]
    rw [if_neg (by omega)]
theorem same_self (w h : Int) (l : List Bool) (hl : l.length ≤ 4194304) : Ev (fun k => barscanlaw31_same.f k w h l w h l) true := by
  unfold barscanlaw31_same.f
  exact Ev.bind (equal_self w h l hl) (Ev.now _)
theorem examples_ok : Ev (fun k => barscanlaw31_examples.f k) true := Ev.of (g := fun k => barscanlaw31_examples.f k) (barscanlaw31_examples.mono) (k := 60) (by decide +kernel)
end Go.Proofs.Ytcmcmoaikabfoaa.Pure
