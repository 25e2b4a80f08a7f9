/-
RasterEnlarges over numbers and rows: Enlarge and its reference agree. Conditions: none.
-/
import Derived.Test.YtcmcmoaikabfoaaStmtRasterEnlarges
import Derived.Test.YtcmcmoaikabfoaaXEnlargeRef
namespace Go.Proofs.Ytcmcmoaikabfoaa.Pure
set_option linter.unusedVariables false
open Go.RowKit Go.Proofs.Ytcmcmoaikabfoaa.PR Go.Proofs.YtcmcmoaikabfoaaW.PrintWords Go.Proofs.YtcmcmoaikabfoaaW.PrintLast Go.Proofs.YtcmcmoaikabfoaaW.PrintMore Go.Proofs.Ytcmcmoaikabfoaa.XWords Go.Proofs.Ytcmcmoaikabfoaa.XPure
theorem RasterEnlarges : barscanlaw31_RasterEnlarges.Pure := by
  intro w h l K _ _ hl _
  refine Ev.rounds (g := fun k => barscanlaw31_RasterEnlarges.f k w h l K) ?_
  unfold barscanlaw31_RasterEnlarges.f
  obtain ⟨r, r1, r2, r3⟩ := enlarge_both w h l K
  by_cases h1 : (l.length : Int) > 40000
  · simp only [if_pos h1]
    exact Ev.bind examples_ok (Ev.now _)
  simp only [if_neg h1, valid_eq, small_eq, Option.bind_some]
  by_cases h2 : K > 1
  · by_cases h3 : K ≤ 4096
    · simp only [if_pos h2, if_pos h3, decide_eq_true_eq]
      by_cases h4 : Valid w h l.length
      · simp only [if_pos h4]
        by_cases h5 : wrap64 (K * w) < 1 ∨ wrap64 (K * h) < 1 ∨ wrap64 (K * w) > 4096 ∨ wrap64 (K * h) > 4096 ∨ wrap64 (K * w) * wrap64 (K * h) ≤ 40000
        · simp only [if_pos h5]
          refine Ev.bind r1 (Ev.bind r2 (Ev.bind (same_self _ _ _ r3) ?_))
          simp only [if_true]
          exact Ev.bind examples_ok (Ev.now _)
        · simp only [if_neg h5]
          exact Ev.bind examples_ok (Ev.now _)
      · simp only [if_neg h4]
        refine Ev.bind r1 (Ev.bind r2 (Ev.bind (same_self _ _ _ r3) ?_))
        simp only [if_true]
        exact Ev.bind examples_ok (Ev.now _)
    · simp only [if_pos h2, if_neg h3]
      refine Ev.bind r1 (Ev.bind r2 (Ev.bind (same_self _ _ _ r3) ?_))
      simp only [if_true]
      exact Ev.bind examples_ok (Ev.now _)
  · simp only [if_neg h2]
    refine Ev.bind r1 (Ev.bind r2 (Ev.bind (same_self _ _ _ r3) ?_))
    simp only [if_true]
    exact Ev.bind examples_ok (Ev.now _)
end Go.Proofs.Ytcmcmoaikabfoaa.Pure
