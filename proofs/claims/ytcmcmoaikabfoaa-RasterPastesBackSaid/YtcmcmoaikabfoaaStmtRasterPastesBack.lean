/-
The pure statement of RasterPastesBack: over numbers and rows alone. Conditions: the numbers fit their kinds, the rows' lengths are at most the greatest int.
-/
import Derived.Test.YtcmcmoaikabfoaaPRx20
namespace Go.Proofs.Ytcmcmoaikabfoaa.PR
open Go.RowKit Go.Proofs.YtcmcmoaikabfoaaW.PrintWords Go.Proofs.YtcmcmoaikabfoaaW.PrintLast Go.Proofs.YtcmcmoaikabfoaaW.PrintMore Go.Proofs.Ytcmcmoaikabfoaa.XWords
def barscanlaw31_RasterPastesBack.Pure : Prop := ∀ (a0_0 : Int) (a0_1 : Int) (l0_2 : List Bool) (a1_0 : Int) (a1_1 : Int) (l1_2 : List Bool) (a2 : Int) (a3 : Int), (Lit.int .i64 a0_0).wf = true → (Lit.int .i64 a0_1).wf = true → l0_2.length ≤ maxLen → (Lit.int .i64 a1_0).wf = true → (Lit.int .i64 a1_1).wf = true → l1_2.length ≤ maxLen → (Lit.int .u8 a2).wf = true → (Lit.int .u8 a3).wf = true → ∃ k, barscanlaw31_RasterPastesBack.f k a0_0 a0_1 l0_2 a1_0 a1_1 l1_2 a2 a3 = some true
end Go.Proofs.Ytcmcmoaikabfoaa.PR
