/- A Go function as a Lean function, and its contract: for every input the Go code comes to what the Lean function tells. -/
import Derived.Test.YtnecbkognpponaaDoorProg
import Derived.Below
import Derived.Deep.Draws
import Derived.Deep.AppendLies
import Derived.Maps.AppendAt
import Derived.OwnWalk
import Derived.Laws.BytesArg
import Derived.Laws.MakeOwn
import Derived.Laws.OwnMore
import Derived.Deep.OwnRows
import Derived.Tactics
import Derived.Lib.ConvBytes
import Derived.Laws.Slices
import Derived.WalkKit
import Derived.KernelRfl
import Derived.RowKit3
import Derived.Deep.LoopGhost
import Derived.Deep.QuietTactic
import Derived.BigQuiet
import Derived.WideLaws
import Derived.Deep.DeepCutAuto
import Derived.Deep.CutBlock
import Derived.Deep.RegionHeld3
import Derived.Laws.Rows
import Derived.Lib.AppendStr
import Derived.ArgAppend
import Derived.Laws.IdiomCopy
import Derived.OrdersHeld
import Derived.Laws.BitsLemmas
import Derived.RowKit
import Derived.Test.YtnecbkognpponaaDoorQW
import Derived.Test.YtnecbkognpponaaDoorWWords
import Derived.Test.YtnecbkognpponaaDoorWLast
import Derived.Test.YtnecbkognpponaaDoorWTab
import Derived.Test.YtnecbkognpponaaDoorWFour
import Derived.Test.YtnecbkognpponaaDoorWQPut
import Derived.Test.YtnecbkognpponaaDoorWApart
import Derived.Test.YtnecbkognpponaaDoorWArr
import Derived.Test.YtnecbkognpponaaDoorWZeros
import Derived.Test.YtnecbkognpponaaDoorWFoot
import Derived.Test.YtnecbkognpponaaDoorWKept
import Derived.Test.YtnecbkognpponaaDoorWShare
import Derived.Test.YtnecbkognpponaaDoorWN
import Derived.Test.YtnecbkognpponaaDoorWFootNe
import Derived.Test.YtnecbkognpponaaDoorWAt
import Derived.Test.YtnecbkognpponaaDoorWEqStruct
import Derived.Test.YtnecbkognpponaaDoorWRepsOne
import Derived.Test.YtnecbkognpponaaDoorWInv
import Derived.Test.YtnecbkognpponaaDoorWInvWords
import Derived.Test.YtnecbkognpponaaDoorWGuard
import Derived.Test.YtnecbkognpponaaDoorWNEv
import Derived.Test.YtnecbkognpponaaDoorWMore
namespace Go.Proofs.YtnecbkognpponaaDoor.Q
open Go.RowKit Go.Proofs.YtnecbkognpponaaDoorW.PrintWords Go.Proofs.YtnecbkognpponaaDoorW.PrintLast Go.Proofs.YtnecbkognpponaaDoorW.PrintMore
attribute [local go_sem] max2_int min2_int max_two min_two max_three min_three max_four min_four   -- for this text's walks alone
set_option linter.unusedVariables false
set_option linter.unusedSimpArgs false



def errW : Option Int → Value
  | none => .nilIface
  | some c => .iface 65 (.int .i64 c)
theorem errW_none : errW none = .nilIface := rfl
theorem errW_some (c : Int) : errW (some c) = .iface 65 (.int .i64 c) := rfl

theorem info3 : (Tryd.prog.info? 3).map (fun i => (i.zero, i.size, i.bytes)) = some (some (.int .i64 0), 1, 8) := by kernel_rfl
theorem info5 : (Tryd.prog.info? 5).map (fun i => (i.zero, i.size, i.bytes)) = some (some (.int .u8 0), 1, 1) := by kernel_rfl
theorem info9 : (Tryd.prog.info? 9).map (fun i => (i.zero, i.size, i.bytes)) = some (some (.string ⟨#[]⟩), 1, 16) := by kernel_rfl
-- the values' own types

end Go.Proofs.YtnecbkognpponaaDoor.Q
