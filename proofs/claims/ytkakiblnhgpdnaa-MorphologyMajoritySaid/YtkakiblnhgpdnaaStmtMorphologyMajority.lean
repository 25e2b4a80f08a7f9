/-
The pure statement of MorphologyMajority: over numbers and rows alone. Conditions: the numbers fit their kinds, the rows' lengths are at most the greatest int.
-/
import Derived.Test.YtkakiblnhgpdnaaPRx18
namespace Go.Proofs.Ytkakiblnhgpdnaa.PR
open Go.RowKit Go.Proofs.YtkakiblnhgpdnaaW.PrintWords Go.Proofs.YtkakiblnhgpdnaaW.PrintLast Go.Proofs.YtkakiblnhgpdnaaW.PrintMore Go.Proofs.Ytkakiblnhgpdnaa.XWords
def barscanlaw37_MorphologyMajority.Pure : Prop := ∀ (a0_0 : Int) (a0_1 : Int) (l0_2 : List Bool) (a1 : Int), (Lit.int .i64 a0_0).wf = true → (Lit.int .i64 a0_1).wf = true → l0_2.length ≤ maxLen → (Lit.int .i64 a1).wf = true → ∃ k, barscanlaw37_MorphologyMajority.f k a0_0 a0_1 l0_2 a1 = some true
end Go.Proofs.Ytkakiblnhgpdnaa.PR
