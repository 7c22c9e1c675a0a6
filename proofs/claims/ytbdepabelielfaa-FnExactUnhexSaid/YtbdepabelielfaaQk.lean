/- A Go function as a Lean function, and its contract: for every input the Go code comes to what the Lean function tells. -/
import Derived.Test.YtbdepabelielfaaProg
import Derived.Below
import Derived.Deep.Draws
import Derived.Deep.AppendLies
import Derived.Maps.AppendAt
import Derived.OwnWalk
import Derived.Laws.BytesArg
import Derived.Laws.MakeOwn
import Derived.Laws.OwnMore
import Derived.Deep.OwnRows
import Derived.Tactics
import Derived.Lib.ConvBytes
import Derived.Laws.Slices
import Derived.WalkKit
import Derived.KernelRfl
import Derived.RowKit3
import Derived.Deep.LoopGhost
import Derived.Deep.QuietTactic
import Derived.BigQuiet
import Derived.WideLaws
import Derived.Deep.DeepCutAuto
import Derived.Deep.CutBlock
import Derived.Deep.RegionHeld3
import Derived.Laws.Rows
import Derived.Lib.AppendStr
import Derived.ArgAppend
import Derived.Laws.IdiomCopy
import Derived.OrdersHeld
import Derived.Laws.BitsLemmas
import Derived.RowKit
import Derived.Test.YtbdepabelielfaaQW
import Derived.Test.YtbdepabelielfaaWWords
import Derived.Test.YtbdepabelielfaaWLast
import Derived.Test.YtbdepabelielfaaWTab
import Derived.Test.YtbdepabelielfaaWFour
import Derived.Test.YtbdepabelielfaaWQPut
import Derived.Test.YtbdepabelielfaaWApart
import Derived.Test.YtbdepabelielfaaWArr
import Derived.Test.YtbdepabelielfaaWZeros
import Derived.Test.YtbdepabelielfaaWFoot
import Derived.Test.YtbdepabelielfaaWKept
import Derived.Test.YtbdepabelielfaaWShare
import Derived.Test.YtbdepabelielfaaWN
import Derived.Test.YtbdepabelielfaaWFootNe
import Derived.Test.YtbdepabelielfaaWAt
import Derived.Test.YtbdepabelielfaaWEqStruct
import Derived.Test.YtbdepabelielfaaWRepsOne
import Derived.Test.YtbdepabelielfaaWInv
import Derived.Test.YtbdepabelielfaaWInvWords
import Derived.Test.YtbdepabelielfaaWGuard
import Derived.Test.YtbdepabelielfaaWNEv
import Derived.Test.YtbdepabelielfaaWMore
namespace Go.Proofs.Ytbdepabelielfaa.Q
open Go.RowKit Go.Proofs.YtbdepabelielfaaW.PrintWords Go.Proofs.YtbdepabelielfaaW.PrintLast Go.Proofs.YtbdepabelielfaaW.PrintMore
attribute [local go_sem] max2_int min2_int max_two min_two max_three min_three max_four min_four   -- for this text's walks alone
set_option linter.unusedVariables false
set_option linter.unusedSimpArgs false



def errW : Option Int → Value
  | none => .nilIface
  | some c => .iface 0 (.int .i64 c)
theorem errW_none : errW none = .nilIface := rfl
theorem errW_some (c : Int) : errW (some c) = .iface 0 (.int .i64 c) := rfl

theorem info5 : (Try.prog.info? 5).map (fun i => (i.zero, i.size, i.bytes)) = some (some (.int .u8 0), 1, 1) := by kernel_rfl
-- the values' own types

end Go.Proofs.Ytbdepabelielfaa.Q
