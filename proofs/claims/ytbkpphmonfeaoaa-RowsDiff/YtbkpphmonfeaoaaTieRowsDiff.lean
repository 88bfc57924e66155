/- The code is what the compiler makes of the program. -/
import Derived.Test.YtbkpphmonfeaoaaRows
import Derived.Test.YtbkpphmonfeaoaaTabRowsDiff
import Derived.Test.YtbkpphmonfeaoaaSmE
import Derived.KernelRfl
set_option maxRecDepth 100000
set_option linter.unusedVariables false
set_option linter.constructorNameAsVariable false
namespace Go.Proofs.Ytbkpphmonfeaoaa.rowsDiff.Code
open Go Go.Am
theorem t12 : compF Try.prog (atN [[0, 3, 4, 1000768]]) Try.f12 = some c12 := by kernel_rfl
theorem t13 : compF Try.prog (atN [[0, 3, 4, 1000832]]) Try.f13 = some c13 := by kernel_rfl
theorem t24 : compF Try.prog (atN [[0, 5, 6, 7, 1001536]]) Try.f24 = some c24 := by kernel_rfl
theorem t25 : compF Try.prog (atN [[0, 3, 1001600]]) Try.f25 = some c25 := by kernel_rfl
theorem t38 : compF Try.prog (atN [[0, 1002432]]) Try.f38 = some c38 := by kernel_rfl
theorem t28 : compF Try.prog (atN [[0, 1, 5, 6, 1001792]]) Try.f28 = some c28 := by kernel_rfl
theorem t29 : compF Try.prog (atN [[0, 3, 5, 6, 7, 1001856]]) Try.f29 = some c29 := by kernel_rfl
theorem t18 : compF Try.prog (atN [[0, 1, 5, 1001152]]) Try.f18 = some c18 := by kernel_rfl
theorem t19 : compF Try.prog (atN [[0, 1, 5, 1001216]]) Try.f19 = some c19 := by kernel_rfl
theorem t14 : compF Try.prog (atN [[0, 1, 6, 7, 8, 1000896]]) Try.f14 = some c14 := by kernel_rfl
theorem t15 : compF Try.prog (atN [[0, 1, 6, 7, 8, 1000960], [0, 1, 6, 7, 8, 1000961], [0, 6, 7, 1000962]]) Try.f15 = some c15 := by kernel_rfl
theorem t27 : compF Try.prog (atN []) Try.f27 = some c27 := by kernel_rfl
theorem t17 : compF Try.prog (atN [[1, 6, 7, 1001088]]) Try.f17 = some c17 := by kernel_rfl
theorem t16 : compF Try.prog (atN [[1, 6, 26, 27, 28, 1001024], [6, 38, 39, 40, 1001025], [6, 11, 76, 77, 78, 1001026]]) Try.f16 = some c16 := by kernel_rfl
theorem t4 : compF Try.prog (atN [[0, 7, 12, 16, 17, 1000256]]) Try.f4 = some c4 := by kernel_rfl
theorem orders : Try.prog.follows .mixedOrders = true := by kernel_rfl
end Go.Proofs.Ytbkpphmonfeaoaa.rowsDiff.Code
