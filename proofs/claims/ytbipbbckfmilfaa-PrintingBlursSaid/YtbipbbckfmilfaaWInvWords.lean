/-
Words for walks, printed by the kit's print; what this claim does not need is left out. Conditions: as each theorem says.
-/
import Derived.Test.YtbipbbckfmilfaaWInv
import Derived.Test.YtbipbbckfmilfaaWFootNe
namespace Go.Proofs.YtbipbbckfmilfaaW.PrintWords
open Go.RowKit
end Go.Proofs.YtbipbbckfmilfaaW.PrintWords
namespace Go.Proofs.YtbipbbckfmilfaaW.PrintLast
section
variable {ops : Array Oper} {a : Act} {o og : Oper} {g : Nat} {t : Tmp} {u : Bool}
end
end Go.Proofs.YtbipbbckfmilfaaW.PrintLast
