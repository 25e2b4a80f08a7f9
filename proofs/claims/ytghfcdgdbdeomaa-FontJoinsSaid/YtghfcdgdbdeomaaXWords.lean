/-
Words for walks; what this claim does not need is left out. Conditions: as each theorem says.
-/
import Derived.Test.YtghfcdgdbdeomaaWWords
import Derived.Test.YtghfcdgdbdeomaaWLast
import Derived.Test.YtghfcdgdbdeomaaWMore
import Derived.Laws.CopyOwn
import Derived.Laws.MakeOwn
import Derived.WalkSpells
namespace Go.Proofs.Ytghfcdgdbdeomaa.XWords
set_option linter.unusedVariables false
open Go.RowKit Go.Proofs.YtghfcdgdbdeomaaW.PrintWords Go.Proofs.YtghfcdgdbdeomaaW.PrintLast Go.Proofs.YtghfcdgdbdeomaaW.PrintMore
section
variable {P : Program} {ops : Array Oper} {rest : List Oper} {o : Oper} {a : Act} {Q : Exit → Act → World → Prop} {Kc : Act → World → Prop} {α : Type}
end
end Go.Proofs.Ytghfcdgdbdeomaa.XWords
