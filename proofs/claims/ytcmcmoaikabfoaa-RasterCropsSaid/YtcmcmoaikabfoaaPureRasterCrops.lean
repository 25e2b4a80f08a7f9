/-
RasterCrops over numbers and rows: Crop and its reference agree. Conditions: none.
-/
import Derived.Test.YtcmcmoaikabfoaaStmtRasterCrops
import Derived.Test.YtcmcmoaikabfoaaXCrop
namespace Go.Proofs.Ytcmcmoaikabfoaa.Pure
set_option linter.unusedVariables false
open Go.RowKit Go.Proofs.Ytcmcmoaikabfoaa.PR Go.Proofs.YtcmcmoaikabfoaaW.PrintWords Go.Proofs.YtcmcmoaikabfoaaW.PrintLast Go.Proofs.YtcmcmoaikabfoaaW.PrintMore Go.Proofs.Ytcmcmoaikabfoaa.XWords Go.Proofs.Ytcmcmoaikabfoaa.XPure
theorem RasterCrops : barscanlaw31_RasterCrops.Pure := by
  intro w h l X Y W H _ _ hl _ _ _ _
  refine Ev.rounds (g := fun k => barscanlaw31_RasterCrops.f k w h l X Y W H) ?_
  unfold barscanlaw31_RasterCrops.f
  by_cases h1 : (l.length : Int) > 40000
  · simp only [if_pos h1]
    exact Ev.bind examples_ok (Ev.now _)
  simp only [if_neg h1, small_eq, Option.bind_some]
  by_cases h2 : W < 1 ∨ H < 1 ∨ W > 4096 ∨ H > 4096 ∨ W * H ≤ 40000
  · simp only [decide_eq_true h2, if_true]
    by_cases h3 : Valid w h l.length ∧ Fits W H
    · refine Ev.bind (crop_ok h3.1 h3.2) (Ev.bind (refCrop_ok h3.1 h3.2) (Ev.bind (same_self _ _ _ ?_) ?_))
      · simp only [cropOf, upto_length]
        have := h3.2.2.2.2.2
        omega
      · simp only [if_true]
        exact Ev.bind examples_ok (Ev.now _)
    · obtain ⟨e, e1, e2⟩ := crop_bad (X := X) (Y := Y) h3
      simp only [e1, e2, Option.bind_some]
      refine Ev.bind (same_self _ _ _ (by simp)) ?_
      simp only [if_true]
      exact Ev.bind examples_ok (Ev.now _)
  · simp only [decide_eq_false h2, Bool.false_eq_true, if_false]
    exact Ev.bind examples_ok (Ev.now _)
end Go.Proofs.Ytcmcmoaikabfoaa.Pure
