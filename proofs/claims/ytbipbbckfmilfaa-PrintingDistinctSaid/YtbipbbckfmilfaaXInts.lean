/-
Two lists that are the same compare as such. Conditions: lists of at most 4194304 places.
-/
import Derived.Test.YtbipbbckfmilfaaXBase
import Derived.Test.YtbipbbckfmilfaaPRx31
namespace Go.Proofs.Ytbipbbckfmilfaa.Pure
set_option linter.unusedVariables false
set_option linter.unusedSimpArgs false
open Go.RowKit Go.Proofs.Ytbipbbckfmilfaa.PR Go.Proofs.YtbipbbckfmilfaaW.PrintWords Go.Proofs.YtbipbbckfmilfaaW.PrintLast Go.Proofs.YtbipbbckfmilfaaW.PrintMore Go.Proofs.Ytbipbbckfmilfaa.XWords Go.Proofs.Ytbipbbckfmilfaa.XPure
theorem ints_self (l : List Int) (hl : l.length ≤ 4194304) : Ev (fun k => barscanlaw43_ints.f k l l) true := by
  unfold barscanlaw43_ints.f
  simp only [if_true]
  have := ev_equal 0 l l rfl (fun k i => barscanlaw43_ints.l0 k l l l.length i) (fun k i h0 h1 e => by
    simp only [barscanlaw43_ints.l0]
    rw [if_pos h1, if_pos h0, if_pos h1, if_pos h1, if_pos trivial, w64 (by omega)]) (fun k i h0 h1 e => absurd rfl e) (fun k => by
    simp only [barscanlaw43_ints.l0]
    rw [if_neg (by omega)])
  simpa using this
end Go.Proofs.Ytbipbbckfmilfaa.Pure
