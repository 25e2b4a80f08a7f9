-- Written by this session's own program (myprint.py).
import Derived.Test.YtbipbbckfmilfaaProg
import Derived.Below
import Derived.Deep.Draws
import Derived.Deep.AppendLies
import Derived.Maps.AppendAt
import Derived.OwnWalk
import Derived.Laws.BytesArg
import Derived.Laws.MakeOwn
import Derived.Laws.OwnMore
import Derived.Deep.OwnRows
import Derived.Tactics
import Derived.Lib.ConvBytes
import Derived.Laws.Slices
import Derived.WalkKit
import Derived.KernelRfl
import Derived.RowKit3
import Derived.Deep.LoopGhost
import Derived.Deep.QuietTactic
import Derived.BigQuiet
import Derived.WideLaws
import Derived.Deep.DeepCutAuto
import Derived.Deep.CutBlock
import Derived.Deep.RegionHeld3
import Derived.Laws.Rows
import Derived.Lib.AppendStr
import Derived.ArgAppend
import Derived.Laws.IdiomCopy
import Derived.OrdersHeld
import Derived.Laws.BitsLemmas
import Derived.RowKit
import Derived.Test.YtbipbbckfmilfaaWWords
import Derived.Test.YtbipbbckfmilfaaWLast
import Derived.Test.YtbipbbckfmilfaaWTab
import Derived.Test.YtbipbbckfmilfaaWFour
import Derived.Test.YtbipbbckfmilfaaWQPut
import Derived.Test.YtbipbbckfmilfaaWApart
import Derived.Test.YtbipbbckfmilfaaWArr
import Derived.Test.YtbipbbckfmilfaaWZeros
import Derived.Test.YtbipbbckfmilfaaWFoot
import Derived.Test.YtbipbbckfmilfaaWKept
import Derived.Test.YtbipbbckfmilfaaWShare
import Derived.Test.YtbipbbckfmilfaaWN
import Derived.Test.YtbipbbckfmilfaaWFootNe
import Derived.Test.YtbipbbckfmilfaaWAt
import Derived.Test.YtbipbbckfmilfaaWEqStruct
import Derived.Test.YtbipbbckfmilfaaWRepsOne
import Derived.Test.YtbipbbckfmilfaaWInv
import Derived.Test.YtbipbbckfmilfaaWInvWords
import Derived.Test.YtbipbbckfmilfaaWGuard
import Derived.Test.YtbipbbckfmilfaaWNEv
import Derived.Test.YtbipbbckfmilfaaWMore
import Derived.Test.YtbipbbckfmilfaaXWords
import Derived.Test.YtbipbbckfmilfaaXShort
import Derived.Test.YtbipbbckfmilfaaXFn
namespace Go.Proofs.Ytbipbbckfmilfaa.PR
open Go.RowKit Go.Proofs.YtbipbbckfmilfaaW.PrintWords Go.Proofs.YtbipbbckfmilfaaW.PrintLast Go.Proofs.YtbipbbckfmilfaaW.PrintMore Go.Proofs.Ytbipbbckfmilfaa.XWords Go.Proofs.Ytbipbbckfmilfaa.XShort Go.Proofs.Ytbipbbckfmilfaa.XFn
attribute [local go_sem] max2_int min2_int max_two min_two max_three min_three max_four min_four   -- for this text's walks alone
set_option linter.unusedVariables false
set_option linter.unusedSimpArgs false



def errW : Option Int → Value
  | none => .nilIface
  | some c => .iface 0 (.int .i64 c)
theorem errW_none : errW none = .nilIface := rfl
theorem errW_some (c : Int) : errW (some c) = .iface 0 (.int .i64 c) := rfl

theorem info3 : (Try.prog.info? 3).map (fun i => (i.zero, i.size, i.bytes)) = some (some (.int .i64 0), 1, 8) := by kernel_rfl
theorem info4 : (Try.prog.info? 4).map (fun i => (i.zero, i.size, i.bytes)) = some (some (.bool false), 1, 1) := by kernel_rfl
theorem info5 : (Try.prog.info? 5).map (fun i => (i.zero, i.size, i.bytes)) = some (some (.int .u8 0), 1, 1) := by kernel_rfl
-- the values' own types

end Go.Proofs.Ytbipbbckfmilfaa.PR
