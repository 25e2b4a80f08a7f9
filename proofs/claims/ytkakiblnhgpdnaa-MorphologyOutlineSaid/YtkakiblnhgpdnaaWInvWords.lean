/-
Words for walks, printed by the kit's print; what this claim does not need is left out. Conditions: as each theorem says.
-/
import Derived.Test.YtkakiblnhgpdnaaWInv
import Derived.Test.YtkakiblnhgpdnaaWFootNe
namespace Go.Proofs.YtkakiblnhgpdnaaW.PrintWords
open Go.RowKit
end Go.Proofs.YtkakiblnhgpdnaaW.PrintWords
namespace Go.Proofs.YtkakiblnhgpdnaaW.PrintLast
section
variable {ops : Array Oper} {a : Act} {o og : Oper} {g : Nat} {t : Tmp} {u : Bool}
end
end Go.Proofs.YtkakiblnhgpdnaaW.PrintLast
