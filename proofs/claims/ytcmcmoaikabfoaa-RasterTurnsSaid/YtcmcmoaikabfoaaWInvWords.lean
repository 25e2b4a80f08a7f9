/-
Words for walks, printed by the kit's print; what this claim does not need is left out. Conditions: as each theorem says.
-/
import Derived.Test.YtcmcmoaikabfoaaWInv
import Derived.Test.YtcmcmoaikabfoaaWFootNe
namespace Go.Proofs.YtcmcmoaikabfoaaW.PrintWords
open Go.RowKit
end Go.Proofs.YtcmcmoaikabfoaaW.PrintWords
namespace Go.Proofs.YtcmcmoaikabfoaaW.PrintLast
section
variable {ops : Array Oper} {a : Act} {o og : Oper} {g : Nat} {t : Tmp} {u : Bool}
end
end Go.Proofs.YtcmcmoaikabfoaaW.PrintLast
