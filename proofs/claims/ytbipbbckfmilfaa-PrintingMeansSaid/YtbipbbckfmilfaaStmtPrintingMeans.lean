/-
The pure statement of PrintingMeans: over numbers and rows alone. Conditions: the numbers fit their kinds, the rows' lengths are at most the greatest int.
-/
import Derived.Test.YtbipbbckfmilfaaPRx14
namespace Go.Proofs.Ytbipbbckfmilfaa.PR
open Go.RowKit Go.Proofs.YtbipbbckfmilfaaW.PrintWords Go.Proofs.YtbipbbckfmilfaaW.PrintLast Go.Proofs.YtbipbbckfmilfaaW.PrintMore Go.Proofs.Ytbipbbckfmilfaa.XWords
def barscanlaw43_PrintingMeans.Pure : Prop := ∀ (a0_0 : Int) (a0_1 : Int) (l0_2 : List Bool) (l1 : List Int) (a2 : Int) (a3 : Int), (Lit.int .i64 a0_0).wf = true → (Lit.int .i64 a0_1).wf = true → l0_2.length ≤ maxLen → l1.length ≤ maxLen → (∀ x ∈ l1, (Lit.int .u8 x).wf = true) → (Lit.int .u8 a2).wf = true → (Lit.int .i64 a3).wf = true → ∃ k, barscanlaw43_PrintingMeans.f k a0_0 a0_1 l0_2 l1 a2 a3 = some true
end Go.Proofs.Ytbipbbckfmilfaa.PR
