/- What the rows' lists give the walks: strconv's two sentinels hold pointers; and the heap that the door's own run leaves meets the list of five variables. -/
import Derived.Test.YtnecbkognpponaaDoorLaid
import Derived.Test.YtnecbkognpponaaDoorHRead
namespace Go.Proofs.YtnecbkognpponaaDoor
open Go Go.Proofs.YtnecbkognpponaaDoor.Q
theorem g0t : (Tryd.prog.globals[0]?).map (·.type) = some 48 := by kernel_rfl
theorem g1t : (Tryd.prog.globals[1]?).map (·.type) = some 48 := by kernel_rfl
theorem cells93 : Tryd.prog.cellsOf 93 = 1 := by kernel_rfl
theorem cells9 : Tryd.prog.cellsOf 9 = 1 := by kernel_rfl
theorem star : "*" ++ "errors.errorString" = "*errors.errorString" := by decide
theorem row91 (u : TypeId) (h : Tryd.prog.typeName? 3 u = some "*errors.errorString") : u = 91 :=
  typeName_ptr_named (nm := "errors.errorString") (by rw [star]; kernel_rfl) (by kernel_rfl) (by decide) u (by rw [star]; exact h)
theorem errs_laid {W : World} {a b c : String × DataW Unit} {r : List (String × DataW Unit)} (h : laidMet Tryd.prog (a :: b :: c :: ("strconv.ErrRange", Rows.laid_strconv_ErrRange) :: ("strconv.ErrSyntax", Rows.laid_strconv_ErrSyntax) :: r) W) : Errs W := by
  have h3 := h.tail.tail.tail
  obtain ⟨a0, s0, hv0, -, -, -⟩ := laid_sentinel h3 gRan g1t Tryd.underlying48 row91 Tryd.underlying91 Tryd.underlying93 rfl rfl Tryd.underlying9 cells93 cells9
  obtain ⟨a1, s1, hv1, -, -, -⟩ := laid_sentinel h3.tail gSyn g0t Tryd.underlying48 row91 Tryd.underlying91 Tryd.underlying93 rfl rfl Tryd.underlying9 cells93 cells9
  exact ⟨⟨_, hv1⟩, ⟨_, hv0⟩⟩
/-- The heap that the door's own run leaves. -/
theorem met5 (os : Os) (args : Array Value) : laidMetH Tryd.prog Rows.fnExactReadDecimalRow.laid ((World.doorLaid Tryd.prog 72 os).forCall (fun _ _ => 0) ⟨#[], args, []⟩).memory :=
  laidMetH_of_parts3 (fuel := 8) (laidMet_of_run' 8 (by kernel_rfl) (by kernel_rfl)) (by kernel_rfl) (by kernel_rfl)
theorem plain5 (W : World) : laidMetH Tryd.prog Rows.fnExactReadDecimalRow.laid W = laidMet Tryd.prog Rows.fnExactReadDecimalRow.laid W := MakeChecks.laidMetH_plain _ _ _ (by kernel_rfl)
end Go.Proofs.YtnecbkognpponaaDoor
