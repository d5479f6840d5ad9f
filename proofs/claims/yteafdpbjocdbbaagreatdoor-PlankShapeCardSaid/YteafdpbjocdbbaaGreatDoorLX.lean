/- The table of the saws. -/
import Derived.Test.YteafdpbjocdbbaaGreatDoorLU
import Derived.Test.YteafdpbjocdbbaaGreatDoorLH
import Derived.Test.YteafdpbjocdbbaaGreatDoorLT
set_option linter.all false
set_option maxRecDepth 100000
open Go Go.A Go.Proofs
namespace Go.A.Pk
theorem ok19 : Entry Tryz.prog 19 (.prim (pConst (.bool true))) := .prim (pConst_ok sound Tryz.func19 (of_decide_eq_true (by kernel_rfl)) (by kernel_rfl) (of_decide_eq_true (by kernel_rfl)) (by kernel_rfl) rfl StkQ.run)
end Go.A.Pk
