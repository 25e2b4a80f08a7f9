/-
Words for walks; what this claim does not need is left out. Conditions: as each theorem says.
-/
import Derived.Test.YtghfcdgdbdeomaaWWords
import Derived.Lib.SmallJoins
import Derived.Deep.Grids
import Derived.ChangeSlices
import Derived.OpenShut
import Derived.ChangeOld
namespace Go.Proofs.Ytghfcdgdbdeomaa.XRow
set_option linter.unusedVariables false
open Go.ChangeShapes Go.WideShapes Go.Deep Go.RowKit Go.Proofs.YtghfcdgdbdeomaaW.PrintWords
section
variable {H : Type} {enc : TypeId × Value → H} {P : Program} {w : World} {base : Nat}
end
end Go.Proofs.Ytghfcdgdbdeomaa.XRow
