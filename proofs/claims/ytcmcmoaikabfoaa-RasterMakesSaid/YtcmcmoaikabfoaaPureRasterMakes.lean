/-
RasterMakes over numbers and rows: the checks and comparisons and their references agree. Conditions: none.
-/
import Derived.Test.YtcmcmoaikabfoaaStmtRasterMakes
import Derived.Test.YtcmcmoaikabfoaaXImages
namespace Go.Proofs.Ytcmcmoaikabfoaa.Pure
set_option linter.unusedVariables false
open Go.RowKit Go.Proofs.Ytcmcmoaikabfoaa.PR Go.Proofs.YtcmcmoaikabfoaaW.PrintWords Go.Proofs.YtcmcmoaikabfoaaW.PrintLast Go.Proofs.YtcmcmoaikabfoaaW.PrintMore Go.Proofs.Ytcmcmoaikabfoaa.XWords Go.Proofs.Ytcmcmoaikabfoaa.XPure
theorem makes_j0 {w h : Int} {l : List Bool} {W H : Int} {m : List Bool} {u v : Int} {p : List Int} {U V : Int} {q : List Int} {x y : Int} (hl : l.length ≤ 4194304) (hp : p.length ≤ 4194304) :
    Ev (fun k => barscanlaw31_RasterMakes.j0 k x y w h l W H m u v p U V q) true := by
  refine Ev.step (f := fun k => _) (fun k => by simp only [barscanlaw31_RasterMakes.j0]; rfl) ?_
  simp only [check_eq, refCheck_eq, checkImage_eq, refCheckImage_eq, At_eq, refAt_eq, Option.bind_some, if_true, beq_self_eq_true]
  refine Ev.bind (equal_eq hl) (Ev.bind (same_eq hl) ?_)
  simp only [beq_self_eq_true, if_true]
  refine Ev.bind (equalImage_eq hp) (Ev.bind (refEqualImage_eq hp) ?_)
  simp only [beq_self_eq_true, if_true]
  refine Ev.bind (equal_eq hl) ?_
  simp only [sameAs_self, if_true]
  refine Ev.bind (equalImage_eq hp) ?_
  simp only [sameAs_self, if_true]
  exact Ev.bind examples_ok (Ev.now _)
theorem RasterMakes : barscanlaw31_RasterMakes.Pure := by
  intro w h l W H m u v p U V q x y _ _ hl _ _ hm _ _ hp _ _ _ hq _ _ _
  refine Ev.rounds (g := fun k => barscanlaw31_RasterMakes.f k w h l W H m u v p U V q x y) ?_
  unfold barscanlaw31_RasterMakes.f
  by_cases h1 : (l.length : Int) > 40000
  · simp only [if_pos h1]
    exact Ev.bind examples_ok (Ev.now _)
  by_cases h2 : (m.length : Int) > 40000
  · simp only [if_neg h1, if_pos h2]
    exact Ev.bind examples_ok (Ev.now _)
  by_cases h3 : (p.length : Int) > 40000
  · simp only [if_neg h1, if_neg h2, if_pos h3]
    exact Ev.bind examples_ok (Ev.now _)
  by_cases h4 : (q.length : Int) > 40000
  · simp only [if_neg h1, if_neg h2, if_neg h3, if_pos h4]
    exact Ev.bind examples_ok (Ev.now _)
  simp only [if_neg h1, if_neg h2, if_neg h3, if_neg h4, small_eq, new_eq, refNew_eq, Option.bind_some, decide_eq_true_eq]
  have hj := makes_j0 (w := w) (h := h) (l := l) (W := W) (H := H) (m := m) (u := u) (v := v) (p := p) (U := U) (V := V) (q := q) (x := x) (y := y) (by omega) (by omega)
  by_cases h5 : x < 1 ∨ y < 1 ∨ x > 4096 ∨ y > 4096 ∨ x * y ≤ 40000
  · simp only [if_pos h5]
    refine Ev.bind (same_self _ _ _ ?_) ?_
    · by_cases F : Fits x y
      · have := F.2.2.2.2
        simp only [if_pos F, List.length_replicate]
        omega
      · simp [if_neg F]
    · simp only [if_true]
      exact hj
  · simp only [if_neg h5]
    exact hj
end Go.Proofs.Ytcmcmoaikabfoaa.Pure
