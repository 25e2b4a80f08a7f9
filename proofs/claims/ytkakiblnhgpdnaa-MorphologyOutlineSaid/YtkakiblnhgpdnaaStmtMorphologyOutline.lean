/-
The pure statement of MorphologyOutline: over numbers and rows alone. Conditions: the numbers fit their kinds, the rows' lengths are at most the greatest int.
-/
import Derived.Test.YtkakiblnhgpdnaaPRx22
namespace Go.Proofs.Ytkakiblnhgpdnaa.PR
open Go.RowKit Go.Proofs.YtkakiblnhgpdnaaW.PrintWords Go.Proofs.YtkakiblnhgpdnaaW.PrintLast Go.Proofs.YtkakiblnhgpdnaaW.PrintMore Go.Proofs.Ytkakiblnhgpdnaa.XWords
def barscanlaw37_MorphologyOutline.Pure : Prop := ∀ (a0_0 : Int) (a0_1 : Int) (l0_2 : List Bool), (Lit.int .i64 a0_0).wf = true → (Lit.int .i64 a0_1).wf = true → l0_2.length ≤ maxLen → ∃ k, barscanlaw37_MorphologyOutline.f k a0_0 a0_1 l0_2 = some true
end Go.Proofs.Ytkakiblnhgpdnaa.PR
