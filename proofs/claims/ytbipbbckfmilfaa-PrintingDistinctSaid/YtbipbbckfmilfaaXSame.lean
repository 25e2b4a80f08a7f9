/-
Two bitmaps that are the same compare as such. Conditions: rows of at most 4194304 places.
-/
import Derived.Test.YtbipbbckfmilfaaXBase
import Derived.Test.YtbipbbckfmilfaaPRx24
namespace Go.Proofs.Ytbipbbckfmilfaa.Pure
set_option linter.unusedVariables false
set_option linter.unusedSimpArgs false
open Go.RowKit Go.Proofs.Ytbipbbckfmilfaa.PR Go.Proofs.YtbipbbckfmilfaaW.PrintWords Go.Proofs.YtbipbbckfmilfaaW.PrintLast Go.Proofs.YtbipbbckfmilfaaW.PrintMore Go.Proofs.Ytbipbbckfmilfaa.XWords Go.Proofs.Ytbipbbckfmilfaa.XPure
theorem equal_self (w h : Int) (l : List Bool) (hl : l.length ≤ 4194304) : Ev (fun k => barscanref31_Equal.f k w h l w h l) true := by
  unfold barscanref31_Equal.f
  simp only [if_true]
  refine Ev.step (f := fun k => barscanref31_Equal.l0 k 0 w h l w h l) (fun k => ?_) ?_
  · simp only [barscanref31_Equal.j0, bne_self_eq_false]
    rfl
  refine ev_loop (fun k i (_ : Unit) => barscanref31_Equal.l0 k i w h l w h l) 0 l.length (by omega) (fun _ _ => True) _ ?_ ?_ () trivial
  · intro i s hi hil _ K
    refine Ev.step (f := fun k => barscanref31_Equal.l0 k (i + 1) w h l w h l) (fun k => ?_) (K () trivial)
    simp only [barscanref31_Equal.l0]
    rw [if_pos hil, if_pos hi, if_pos hil, w64 (by omega), bne_self_eq_false]
    rfl
  · intro s _
    refine ev_end (fun k => ?_)
    simp only [barscanref31_Equal.l0]
    rw [if_neg (by omega)]
theorem same_self (w h : Int) (l : List Bool) (hl : l.length ≤ 4194304) : Ev (fun k => barscanlaw43_same.f k w h l w h l) true := by
  unfold barscanlaw43_same.f
  exact Ev.bind (equal_self w h l hl) (Ev.now _)
end Go.Proofs.Ytbipbbckfmilfaa.Pure
