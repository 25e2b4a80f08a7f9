/-
What the small functions of raster answer, in plain numbers. Conditions: as each theorem says.
-/
import Derived.Test.YtbipbbckfmilfaaPRx7
import Derived.Test.YtbipbbckfmilfaaPRx1
import Derived.Test.YtbipbbckfmilfaaPRx6
import Derived.Test.YtbipbbckfmilfaaPRx9
import Derived.Test.YtbipbbckfmilfaaXPure
namespace Go.Proofs.Ytbipbbckfmilfaa.Pure
set_option linter.unusedVariables false
set_option linter.unusedSimpArgs false
open Go.RowKit Go.Proofs.Ytbipbbckfmilfaa.PR Go.Proofs.YtbipbbckfmilfaaW.PrintWords Go.Proofs.YtbipbbckfmilfaaW.PrintLast Go.Proofs.YtbipbbckfmilfaaW.PrintMore Go.Proofs.Ytbipbbckfmilfaa.XWords Go.Proofs.Ytbipbbckfmilfaa.XPure
/-- The sizes that bitmaps have. -/
def Fits (w h : Int) : Prop := 1 ≤ w ∧ w ≤ 4096 ∧ 1 ≤ h ∧ h ≤ 4096 ∧ w * h ≤ 4194304
instance (w h : Int) : Decidable (Fits w h) := by unfold Fits; infer_instance
/-- A valid bitmap or image. -/
def Valid (w h : Int) (n : Nat) : Prop := Fits w h ∧ (n : Int) = w * h
instance (w h : Int) (n : Nat) : Decidable (Valid w h n) := by unfold Valid; infer_instance

theorem mul_bound {w h : Int} (h1 : 1 ≤ w) (h2 : w ≤ 4096) (h3 : 1 ≤ h) (h4 : h ≤ 4096) : 1 ≤ w * h ∧ w * h ≤ 16777216 := by
  have a : 1 * 1 ≤ w * h := Int.mul_le_mul h1 h3 (by omega) (by omega)
  have b : w * h ≤ 4096 * 4096 := Int.mul_le_mul h2 h4 (by omega) (by omega)
  omega
theorem Fits.pos {w h : Int} (F : Fits w h) : 1 ≤ w * h := (mul_bound F.1 F.2.1 F.2.2.1 F.2.2.2.1).1
theorem w64_mul {w h : Int} (h1 : 1 ≤ w) (h2 : w ≤ 4096) (h3 : 1 ≤ h) (h4 : h ≤ 4096) : wrap64 (w * h) = w * h := by
  have := mul_bound h1 h2 h3 h4
  exact w64 (by omega)
theorem Fits.w64 {w h : Int} (F : Fits w h) : wrap64 (w * h) = w * h := w64_mul F.1 F.2.1 F.2.2.1 F.2.2.2.1

theorem possible_eq (w h : Int) : raster_possible.f w h = some (decide (Fits w h)) := by
  unfold raster_possible.f Fits
  by_cases h1 : w ≥ 1
  · by_cases h2 : w ≤ 4096
    · by_cases h3 : h ≥ 1
      · by_cases h4 : h ≤ 4096
        · rw [if_pos h1, if_pos h2, if_pos h3, if_pos h4, w64_mul h1 h2 h3 h4]
          have h1' : 1 ≤ w := h1
          have h3' : 1 ≤ h := h3
          simp [h1', h2, h3', h4]
        · simp [h1, h2, h3, h4]
      · simp [h1, h2, h3]
    · simp [h1, h2]
  · simp [h1]
theorem check_eq (w h : Int) (l : List Bool) : raster_Check.f w h l = some (if Valid w h l.length then 0 else 1) := by
  unfold raster_Check.f Valid
  rw [possible_eq]
  by_cases F : Fits w h
  · simp only [decide_eq_true F, Option.bind_some, if_true, F.w64, F, true_and]
    by_cases h1 : (l.length : Int) = w * h
    · rw [if_pos h1, if_pos h1]; rfl
    · rw [if_neg h1, if_neg h1]; rfl
  · simp [F]
theorem new_eq (w h : Int) : raster_New.f w h = some (if Fits w h then (w, h, List.replicate (w * h).toNat false, 0) else (0, 0, [], 23)) := by
  unfold raster_New.f
  rw [possible_eq]
  by_cases F : Fits w h
  · have := F.pos
    have := F.2.2.2.2
    simp only [decide_eq_true F, Option.bind_some, if_true, F.w64, if_pos F]
    rw [if_pos (by omega), if_pos (by omega)]
  · simp [F]
/-- A pixel of a table; those outside have the default. -/
def pix {α : Type} (d : α) (w h : Int) (l : List α) (x y : Int) : α := if 0 ≤ x ∧ x < w ∧ 0 ≤ y ∧ y < h then l.getD (y * w + x).toNat d else d
theorem pix_in {α : Type} {d : α} {w h : Int} {l : List α} {x y : Int} (h1 : 0 ≤ x) (h2 : x < w) (h3 : 0 ≤ y) (h4 : y < h) : pix d w h l x y = l.getD (y * w + x).toNat d := if_pos ⟨h1, h2, h3, h4⟩
theorem pix_out {α : Type} {d : α} {w h : Int} {l : List α} {x y : Int} (h0 : ¬ (0 ≤ x ∧ x < w ∧ 0 ≤ y ∧ y < h)) : pix d w h l x y = d := if_neg h0
theorem Valid.spot {w h : Int} {n : Nat} (V : Valid w h n) {x y : Int} (h1 : 0 ≤ x) (h2 : x < w) (h3 : 0 ≤ y) (h4 : y < h) :
    wrap64 (y * w) = y * w ∧ wrap64 (y * w + x) = y * w + x ∧ 0 ≤ y * w ∧ 0 ≤ y * w + x ∧ y * w + x < n ∧ y * w + w ≤ n ∧ (n : Int) ≤ 4194304 := by
  have a : 0 ≤ y * w := Int.mul_nonneg h3 (by omega)
  have b := row_lt (w := w) (h := h) h2 h1 h4 h3
  have c := row_lt (w := w) (h := h) (u := w - 1) (by omega) (by omega) h4 h3
  have d := V.2
  have e := V.1.2.2.2.2
  refine ⟨w64 ?_, w64 ?_, ?_⟩ <;> omega
theorem checkImage_eq (w h : Int) (l : List Int) : raster_CheckImage.f w h l = some (if Valid w h l.length then 0 else 1) := by
  unfold raster_CheckImage.f Valid
  rw [possible_eq]
  by_cases F : Fits w h
  · simp only [decide_eq_true F, Option.bind_some, if_true, F.w64, F, true_and]
    by_cases h1 : (l.length : Int) = w * h
    · rw [if_pos h1, if_pos h1]; rfl
    · rw [if_neg h1, if_neg h1]; rfl
  · simp [F]
/-- Equality of bitmaps or images. -/
def sameAs {α : Type} [DecidableEq α] (w h : Int) (l : List α) (W H : Int) (m : List α) : Bool := decide (w = W ∧ h = H ∧ l = m)
theorem sameAs_self {α : Type} [DecidableEq α] (w h : Int) (l : List α) : sameAs w h l w h l = true := by simp [sameAs]
theorem examples_ok : Ev (fun k => barscanlaw43_examples.f k) true := Ev.of (g := fun k => barscanlaw43_examples.f k) (barscanlaw43_examples.mono) (k := 100) (by decide +kernel)
end Go.Proofs.Ytbipbbckfmilfaa.Pure
