/-
Words for walks, printed by the kit's print; what this claim does not need is left out. Conditions: as each theorem says.
-/
import Derived.Test.YtbipbbckfmilfaaWWords
import Derived.Laws.StructEq
/-! ### 53. '==' of structs as_ one Bool -/
namespace Go.Proofs.YtbipbbckfmilfaaW.PrintWords
open Go.RowKit
section
variable {P : Program} {d : Nat} {xs ys : Array Value} {f : Field} {fs : List Field} {a b : Value} {r s : Bool} {w : World}
end
end Go.Proofs.YtbipbbckfmilfaaW.PrintWords
