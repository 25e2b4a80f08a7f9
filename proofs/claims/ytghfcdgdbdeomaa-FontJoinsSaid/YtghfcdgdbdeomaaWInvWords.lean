/-
Words for walks, printed by the kit's print; what this claim does not need is left out. Conditions: as each theorem says.
-/
import Derived.Test.YtghfcdgdbdeomaaWInv
import Derived.Test.YtghfcdgdbdeomaaWFootNe
namespace Go.Proofs.YtghfcdgdbdeomaaW.PrintWords
open Go.RowKit
end Go.Proofs.YtghfcdgdbdeomaaW.PrintWords
namespace Go.Proofs.YtghfcdgdbdeomaaW.PrintLast
section
variable {ops : Array Oper} {a : Act} {o og : Oper} {g : Nat} {t : Tmp} {u : Bool}
end
end Go.Proofs.YtghfcdgdbdeomaaW.PrintLast
