/-
RasterPastes over numbers and rows: Paste and its reference agree. Conditions: none.
-/
import Derived.Test.YtcmcmoaikabfoaaStmtRasterPastes
import Derived.Test.YtcmcmoaikabfoaaXPaste
namespace Go.Proofs.Ytcmcmoaikabfoaa.Pure
set_option linter.unusedVariables false
open Go.RowKit Go.Proofs.Ytcmcmoaikabfoaa.PR Go.Proofs.YtcmcmoaikabfoaaW.PrintWords Go.Proofs.YtcmcmoaikabfoaaW.PrintLast Go.Proofs.YtcmcmoaikabfoaaW.PrintMore Go.Proofs.Ytcmcmoaikabfoaa.XWords Go.Proofs.Ytcmcmoaikabfoaa.XPure
theorem RasterPastes : barscanlaw31_RasterPastes.Pure := by
  intro w h l W H p X Y _ _ hl _ _ hp _ _
  refine Ev.rounds (g := fun k => barscanlaw31_RasterPastes.f k w h l W H p X Y) ?_
  unfold barscanlaw31_RasterPastes.f
  by_cases h1 : (l.length : Int) > 40000
  · simp only [if_pos h1]
    exact Ev.bind examples_ok (Ev.now _)
  by_cases h2 : (p.length : Int) > 40000
  · simp only [if_neg h1, if_pos h2]
    exact Ev.bind examples_ok (Ev.now _)
  simp only [if_neg h1, if_neg h2]
  by_cases h3 : Valid w h l.length ∧ Valid W H p.length
  · refine Ev.bind (paste_ok h3.1 h3.2) (Ev.bind (refPaste_ok h3.1 h3.2) (Ev.bind (same_self _ _ _ ?_) ?_))
    · simp only [pasteOf, upto_length]
      have := h3.1.2
      omega
    · simp only [if_true]
      exact Ev.bind examples_ok (Ev.now _)
  · refine Ev.bind (paste_bad h3) (Ev.bind (refPaste_bad h3) (Ev.bind (same_self _ _ _ (by simp)) ?_))
    simp only [if_true]
    exact Ev.bind examples_ok (Ev.now _)
end Go.Proofs.Ytcmcmoaikabfoaa.Pure
