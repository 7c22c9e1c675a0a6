/- What the rows' lists give the walks: the table of powers of ten reads as its initialiser lays it; the two sentinels of strconv are there; and the heap that the door's own run leaves meets each list. -/
import Derived.Test.YtnecbkognpponaaDoorHDec
import Derived.Test.YtnecbkognpponaaDoorRows
import Derived.MakeChecks
import Derived.Lib.LaidTab
import Derived.Stop.LaidErr
import Derived.LaidMore
namespace Go.Proofs.YtnecbkognpponaaDoor
open Go Go.Proofs.YtnecbkognpponaaDoor.Q
theorem own : ownKnob Tryd.prog.godebug = none := by kernel_rfl
theorem laidOut : laidOutB Tryd.prog = true := by kernel_rfl
theorem g3 : Tryd.prog.globalNamed "internal/strconv.uint64pow10" = some 3 := by kernel_rfl
theorem g3t : (Tryd.prog.globals[3]?).map (·.type) = some 96 := by kernel_rfl
theorem cells96 : Tryd.prog.cellsOf 96 = 20 := by kernel_rfl
theorem cells74 : Tryd.prog.cellsOf 74 = 1 := by kernel_rfl
theorem pow10_laid {H : Type} : (Rows.laid_internal_strconv_uint64pow10 : DataW H) = Lib.tabData .u64 Lib.pow10Tab := by
  unfold Rows.laid_internal_strconv_uint64pow10 Lib.tabData Lib.pow10Tab
  rfl
theorem tab_laid {W : World} {a b : String × DataW Unit} {r : List (String × DataW Unit)} (h : laidMet Tryd.prog (a :: b :: ("internal/strconv.uint64pow10", Rows.laid_internal_strconv_uint64pow10) :: r) W) : Tab W := by
  have h2 := h.tail.tail
  rw [pow10_laid] at h2
  exact Lib.tabIs_of_head g3 g3t Tryd.underlying96 Tryd.underlying74 cells74 cells96 h2
/-- The heap that the door's own run leaves. -/
theorem met3 (os : Os) (args : Array Value) : laidMetH Tryd.prog Rows.fnExactDecimalRow.laid ((World.doorLaid Tryd.prog 72 os).forCall (fun _ _ => 0) ⟨#[], args, []⟩).memory :=
  laidMetH_of_parts3 (fuel := 8) (laidMet_of_run' 8 (by kernel_rfl) (by kernel_rfl)) (by kernel_rfl) (by kernel_rfl)
theorem plain3 (W : World) : laidMetH Tryd.prog Rows.fnExactDecimalRow.laid W = laidMet Tryd.prog Rows.fnExactDecimalRow.laid W := MakeChecks.laidMetH_plain _ _ _ (by kernel_rfl)
end Go.Proofs.YtnecbkognpponaaDoor
