/-
The pure statement of MorphologyMonotony: over numbers and rows alone. Conditions: the numbers fit their kinds, the rows' lengths are at most the greatest int.
-/
import Derived.Test.YtkakiblnhgpdnaaPRx27
namespace Go.Proofs.Ytkakiblnhgpdnaa.PR
open Go.RowKit Go.Proofs.YtkakiblnhgpdnaaW.PrintWords Go.Proofs.YtkakiblnhgpdnaaW.PrintLast Go.Proofs.YtkakiblnhgpdnaaW.PrintMore Go.Proofs.Ytkakiblnhgpdnaa.XWords
def barscanlaw37_MorphologyMonotony.Pure : Prop := ∀ (a0_0 : Int) (a0_1 : Int) (l0_2 : List Bool) (l1 : List Int) (a2 : Int) (a3 : Int), (Lit.int .i64 a0_0).wf = true → (Lit.int .i64 a0_1).wf = true → l0_2.length ≤ maxLen → l1.length ≤ maxLen → (∀ x ∈ l1, (Lit.int .u16 x).wf = true) → (Lit.int .i64 a2).wf = true → (Lit.int .i64 a3).wf = true → ∃ k, barscanlaw37_MorphologyMonotony.f k a0_0 a0_1 l0_2 l1 a2 a3 = some true
end Go.Proofs.Ytkakiblnhgpdnaa.PR
