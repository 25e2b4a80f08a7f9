/-
The pure statement of PrintingBlurs: over numbers and rows alone. Conditions: the numbers fit their kinds, the rows' lengths are at most the greatest int.
-/
import Derived.Test.YtbipbbckfmilfaaPRx15
namespace Go.Proofs.Ytbipbbckfmilfaa.PR
open Go.RowKit Go.Proofs.YtbipbbckfmilfaaW.PrintWords Go.Proofs.YtbipbbckfmilfaaW.PrintLast Go.Proofs.YtbipbbckfmilfaaW.PrintMore Go.Proofs.Ytbipbbckfmilfaa.XWords
def barscanlaw43_PrintingBlurs.Pure : Prop := ∀ (a0_0 : Int) (a0_1 : Int) (l0_2 : List Int) (a1 : Int), (Lit.int .i64 a0_0).wf = true → (Lit.int .i64 a0_1).wf = true → l0_2.length ≤ maxLen → (∀ x ∈ l0_2, (Lit.int .u8 x).wf = true) → (Lit.int .i64 a1).wf = true → ∃ k, barscanlaw43_PrintingBlurs.f k a0_0 a0_1 l0_2 a1 = some true
end Go.Proofs.Ytbipbbckfmilfaa.PR
