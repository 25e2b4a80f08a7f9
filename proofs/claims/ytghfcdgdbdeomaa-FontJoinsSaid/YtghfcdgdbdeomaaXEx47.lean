/-
The examples of the chapter. Conditions: none.
-/
import Derived.Test.YtghfcdgdbdeomaaXPure
import Derived.Test.YtghfcdgdbdeomaaPRx7
namespace Go.Proofs.Ytghfcdgdbdeomaa.Pure
open Go.RowKit Go.Proofs.Ytghfcdgdbdeomaa.PR Go.Proofs.YtghfcdgdbdeomaaW.PrintWords Go.Proofs.YtghfcdgdbdeomaaW.PrintLast Go.Proofs.YtghfcdgdbdeomaaW.PrintMore Go.Proofs.Ytghfcdgdbdeomaa.XWords Go.Proofs.Ytghfcdgdbdeomaa.XPure
set_option maxRecDepth 20000 in
theorem examples_ok : Ev (fun k => barscanlaw47_examples.f k) true := Ev.of (g := fun k => barscanlaw47_examples.f k) (barscanlaw47_examples.mono) (k := 300) (by decide +kernel)
end Go.Proofs.Ytghfcdgdbdeomaa.Pure
