/-
The pure statement of FontJoins: over numbers and rows alone. Conditions: the numbers fit their kinds, the rows' lengths are at most the greatest int.
-/
import Derived.Test.YtghfcdgdbdeomaaPRx20
namespace Go.Proofs.Ytghfcdgdbdeomaa.PR
open Go.RowKit Go.Proofs.YtghfcdgdbdeomaaW.PrintWords Go.Proofs.YtghfcdgdbdeomaaW.PrintLast Go.Proofs.YtghfcdgdbdeomaaW.PrintMore Go.Proofs.Ytghfcdgdbdeomaa.XWords
end Go.Proofs.Ytghfcdgdbdeomaa.PR
