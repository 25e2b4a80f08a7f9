/-
What the comparisons and checks of raster and of its reference answer, bitmaps and images. Conditions: rows of at most 4194304 places where a loop runs.
-/
import Derived.Test.YtcmcmoaikabfoaaXBase
import Derived.Test.YtcmcmoaikabfoaaPRx17
import Derived.Test.YtcmcmoaikabfoaaPRx17
import Derived.Test.YtcmcmoaikabfoaaPRx17
import Derived.Test.YtcmcmoaikabfoaaPRx17
namespace Go.Proofs.Ytcmcmoaikabfoaa.Pure
set_option linter.unusedVariables false
set_option linter.unusedSimpArgs false
open Go.RowKit Go.Proofs.Ytcmcmoaikabfoaa.PR Go.Proofs.YtcmcmoaikabfoaaW.PrintWords Go.Proofs.YtcmcmoaikabfoaaW.PrintLast Go.Proofs.YtcmcmoaikabfoaaW.PrintMore Go.Proofs.Ytcmcmoaikabfoaa.XWords Go.Proofs.Ytcmcmoaikabfoaa.XPure

theorem checkImage_eq (w h : Int) (l : List Int) : raster_CheckImage.f w h l = some (if Valid w h l.length then 0 else 1) := by
  unfold raster_CheckImage.f Valid
  rw [possible_eq]
  by_cases F : Fits w h
  · simp only [decide_eq_true F, Option.bind_some, if_true, F.w64, F, true_and]
    by_cases h1 : (l.length : Int) = w * h
    · rw [if_pos h1, if_pos h1]; rfl
    · rw [if_neg h1, if_neg h1]; rfl
  · simp [F]
theorem validImage_eq (w h : Int) (l : List Int) : barscanref31_ValidImage.f w h l = some (decide (Valid w h l.length)) := by
  unfold barscanref31_ValidImage.f Valid
  rw [fits_eq]
  by_cases F : Fits w h
  · simp only [decide_eq_true F, Option.bind_some, if_true, F.w64, F, true_and]
    rfl
  · simp [F]
theorem refCheck_eq (w h : Int) (l : List Bool) : barscanref31_Check.f w h l = some (if Valid w h l.length then 0 else 1) := by
  unfold barscanref31_Check.f
  rw [valid_eq]
  by_cases V : Valid w h l.length <;> simp [V]
theorem refCheckImage_eq (w h : Int) (l : List Int) : barscanref31_CheckImage.f w h l = some (if Valid w h l.length then 0 else 1) := by
  unfold barscanref31_CheckImage.f
  rw [validImage_eq]
  by_cases V : Valid w h l.length <;> simp [V]
theorem refNew_eq (w h : Int) : barscanref31_New.f w h = some (if Fits w h then (w, h, List.replicate (w * h).toNat false, 0) else (0, 0, [], 23)) := new_eq w h

/-- Equality of bitmaps or images. -/
def sameAs {α : Type} [DecidableEq α] (w h : Int) (l : List α) (W H : Int) (m : List α) : Bool := decide (w = W ∧ h = H ∧ l = m)
theorem equalBool_eq {l m : List Bool} (hl : l.length ≤ 4194304) : Ev (fun k => slices_Equal_bool_bool.f k l m) (decide (l = m)) := by
  unfold slices_Equal_bool_bool.f
  by_cases he : (l.length : Int) = m.length
  · simp only [if_pos he]
    refine ev_equal false l m (by omega) (fun k i => slices_Equal_bool_bool.l0 k l m l.length i) ?_ ?_ ?_
    · intro k i h0 h1 e
      simp only [slices_Equal_bool_bool.l0]
      rw [if_pos h1, if_pos h0, if_pos h1, if_pos (by omega), (show (rdOf false l i != rdOf false m i) = false by rw [show rdOf false l i = rdOf false m i from e]; simp), w64 (by omega)]
      simp
    · intro k i h0 h1 e
      simp only [slices_Equal_bool_bool.l0]
      rw [if_pos h1, if_pos h0, if_pos h1, if_pos (by omega), if_pos (show (rdOf false l i != rdOf false m i) = true by simpa [rdOf] using e)]
    · intro k
      simp only [slices_Equal_bool_bool.l0]
      rw [if_neg (by omega)]
  · simp only [if_neg he]
    rw [decide_eq_false (fun hh => he (by rw [hh]))]
    exact Ev.now _
theorem equalInt_eq {l m : List Int} (hl : l.length ≤ 4194304) : Ev (fun k => slices_Equal_uint8_uint8.f k l m) (decide (l = m)) := by
  unfold slices_Equal_uint8_uint8.f
  by_cases he : (l.length : Int) = m.length
  · simp only [if_pos he]
    refine ev_equal 0 l m (by omega) (fun k i => slices_Equal_uint8_uint8.l0 k l m l.length i) ?_ ?_ ?_
    · intro k i h0 h1 e
      simp only [slices_Equal_uint8_uint8.l0]
      rw [if_pos h1, if_pos h0, if_pos h1, if_pos (by omega), if_pos (show rd l i = rd m i from e), w64 (by omega)]
    · intro k i h0 h1 e
      simp only [slices_Equal_uint8_uint8.l0]
      rw [if_pos h1, if_pos h0, if_pos h1, if_pos (by omega), if_neg (show ¬ rd l i = rd m i from e)]
    · intro k
      simp only [slices_Equal_uint8_uint8.l0]
      rw [if_neg (by omega)]
  · simp only [if_neg he]
    rw [decide_eq_false (fun hh => he (by rw [hh]))]
    exact Ev.now _
theorem equal_eq {w h W H : Int} {l m : List Bool} (hl : l.length ≤ 4194304) : Ev (fun k => raster_Equal.f k w h l W H m) (sameAs w h l W H m) := by
  unfold raster_Equal.f sameAs
  by_cases h1 : w = W
  · by_cases h2 : h = H
    · simp only [if_pos h1, if_pos h2, h1, h2, true_and]
      exact Ev.bind (equalBool_eq hl) (Ev.now _)
    · simp only [if_pos h1, if_neg h2, h2, false_and, and_false, decide_false]
      exact Ev.now _
  · simp only [if_neg h1, h1, false_and, decide_false]
    exact Ev.now _
theorem equalImage_eq {w h W H : Int} {l m : List Int} (hl : l.length ≤ 4194304) : Ev (fun k => raster_EqualImage.f k w h l W H m) (sameAs w h l W H m) := by
  unfold raster_EqualImage.f sameAs
  by_cases h1 : w = W
  · by_cases h2 : h = H
    · simp only [if_pos h1, if_pos h2, h1, h2, true_and]
      exact Ev.bind (equalInt_eq hl) (Ev.now _)
    · simp only [if_pos h1, if_neg h2, h2, false_and, and_false, decide_false]
      exact Ev.now _
  · simp only [if_neg h1, h1, false_and, decide_false]
    exact Ev.now _
theorem refEqual_eq {w h W H : Int} {l m : List Bool} (hl : l.length ≤ 4194304) : Ev (fun k => barscanref31_Equal.f k w h l W H m) (sameAs w h l W H m) := by
  unfold barscanref31_Equal.f sameAs
  by_cases h1 : w = W
  · by_cases h2 : h = H
    · simp only [if_pos h1, if_pos h2, h1, h2, true_and]
      by_cases he : (l.length : Int) = m.length
      · have hb : ((l.length : Int) != (m.length : Int)) = false := by simpa using he
        rw [hb]
        refine Ev.step (f := fun k => barscanref31_Equal.l0 k 0 W H l W H m) (fun k => by simp [barscanref31_Equal.j0]) ?_
        refine ev_equal false l m (by omega) (fun k i => barscanref31_Equal.l0 k i W H l W H m) ?_ ?_ ?_
        · intro k i h0 h1 e
          simp only [barscanref31_Equal.l0]
          rw [if_pos h1, if_pos h0, if_pos (by omega), (show (rdOf false l i != rdOf false m i) = false by rw [show rdOf false l i = rdOf false m i from e]; simp), w64 (by omega)]
          simp
        · intro k i h0 h1 e
          simp only [barscanref31_Equal.l0]
          rw [if_pos h1, if_pos h0, if_pos (by omega), if_pos (show (rdOf false l i != rdOf false m i) = true by simpa [rdOf] using e)]
        · intro k
          simp only [barscanref31_Equal.l0]
          rw [if_neg (by omega)]
      · have hb : ((l.length : Int) != (m.length : Int)) = true := by simpa using he
        rw [hb, decide_eq_false (fun hh => he (by rw [hh]))]
        exact ev_end (fun k => by simp [barscanref31_Equal.j0])
    · simp only [if_pos h1, if_neg h2, h2, false_and, and_false, decide_false]
      exact ev_end (fun k => by simp [barscanref31_Equal.j0])
  · simp only [if_neg h1, h1, false_and, decide_false]
    exact ev_end (fun k => by simp [barscanref31_Equal.j0])
theorem refEqualImage_eq {w h W H : Int} {l m : List Int} (hl : l.length ≤ 4194304) : Ev (fun k => barscanref31_EqualImage.f k w h l W H m) (sameAs w h l W H m) := by
  unfold barscanref31_EqualImage.f sameAs
  by_cases h1 : w = W
  · by_cases h2 : h = H
    · simp only [if_pos h1, if_pos h2, h1, h2, true_and]
      by_cases he : (l.length : Int) = m.length
      · have hb : ((l.length : Int) != (m.length : Int)) = false := by simpa using he
        rw [hb]
        refine Ev.step (f := fun k => barscanref31_EqualImage.l0 k 0 W H l W H m) (fun k => by simp [barscanref31_EqualImage.j0]) ?_
        refine ev_equal 0 l m (by omega) (fun k i => barscanref31_EqualImage.l0 k i W H l W H m) ?_ ?_ ?_
        · intro k i h0 h1 e
          simp only [barscanref31_EqualImage.l0]
          rw [if_pos h1, if_pos h0, if_pos (by omega), if_pos (show rd l i = rd m i from e), w64 (by omega)]
        · intro k i h0 h1 e
          simp only [barscanref31_EqualImage.l0]
          rw [if_pos h1, if_pos h0, if_pos (by omega), if_neg (show ¬ rd l i = rd m i from e)]
        · intro k
          simp only [barscanref31_EqualImage.l0]
          rw [if_neg (by omega)]
      · have hb : ((l.length : Int) != (m.length : Int)) = true := by simpa using he
        rw [hb, decide_eq_false (fun hh => he (by rw [hh]))]
        exact ev_end (fun k => by simp [barscanref31_EqualImage.j0])
    · simp only [if_pos h1, if_neg h2, h2, false_and, and_false, decide_false]
      exact ev_end (fun k => by simp [barscanref31_EqualImage.j0])
  · simp only [if_neg h1, h1, false_and, decide_false]
    exact ev_end (fun k => by simp [barscanref31_EqualImage.j0])
theorem same_eq {w h W H : Int} {l m : List Bool} (hl : l.length ≤ 4194304) : Ev (fun k => barscanlaw31_same.f k w h l W H m) (sameAs w h l W H m) := by
  unfold barscanlaw31_same.f
  exact Ev.bind (refEqual_eq hl) (Ev.now _)
theorem sameAs_self {α : Type} [DecidableEq α] (w h : Int) (l : List α) : sameAs w h l w h l = true := by simp [sameAs]
end Go.Proofs.Ytcmcmoaikabfoaa.Pure
