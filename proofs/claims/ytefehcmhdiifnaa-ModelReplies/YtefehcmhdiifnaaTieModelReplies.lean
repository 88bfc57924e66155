/- The code is what the compiler makes of the program. -/
import Derived.Test.YtefehcmhdiifnaaRows
import Derived.Test.YtefehcmhdiifnaaTabModelReplies
import Derived.Test.YtefehcmhdiifnaaAmC
import Derived.KernelRfl
set_option maxRecDepth 100000
namespace Go.Proofs.Ytefehcmhdiifnaa.modelReplies.Code
open Go Go.Am
theorem t3 : compF Try.prog (atN []) Try.f3 = some c3 := by kernel_rfl
theorem t10 : compF Try.prog (atN [[1, 3]]) Try.f10 = some c10 := by kernel_rfl
theorem t11 : compF Try.prog (atN []) Try.f11 = some c11 := by kernel_rfl
theorem t51 : compF Try.prog (atN []) Try.f51 = some c51 := by kernel_rfl
theorem t84 : compF Try.prog (atN []) Try.f84 = some c84 := by kernel_rfl
theorem t112 : compF Try.prog (atN [[1, 2, 15, 16, 17]]) Try.f112 = some c112 := by kernel_rfl
theorem t113 : compF Try.prog (atN []) Try.f113 = some c113 := by kernel_rfl
theorem t114 : compF Try.prog (atN [[0, 1, 12, 13]]) Try.f114 = some c114 := by kernel_rfl
theorem t85 : compF Try.prog (atN [[0, 1, 12, 13]]) Try.f85 = some c85 := by kernel_rfl
theorem t52 : compF Try.prog (atN [[0, 1, 12, 13]]) Try.f52 = some c52 := by kernel_rfl
theorem t12 : compF Try.prog (atN []) Try.f12 = some c12 := by kernel_rfl
theorem t53 : compF Try.prog (atN [[2, 3, 5]]) Try.f53 = some c53 := by kernel_rfl
theorem t86 : compF Try.prog (atN [[2, 3, 5]]) Try.f86 = some c86 := by kernel_rfl
theorem t115 : compF Try.prog (atN [[0, 1, 5]]) Try.f115 = some c115 := by kernel_rfl
theorem t54 : compF Try.prog (atN [[0, 1, 5]]) Try.f54 = some c54 := by kernel_rfl
def table : List (Nat × CF) := [(3, c3), (10, c10), (11, c11), (51, c51), (84, c84), (112, c112), (113, c113), (114, c114), (85, c85), (52, c52), (12, c12), (53, c53), (86, c86), (115, c115), (54, c54)]
theorem tied : Tied Try.prog table := ⟨⟨_, _, Try.func3, t3⟩, ⟨_, _, Try.func10, t10⟩, ⟨_, _, Try.func11, t11⟩, ⟨_, _, Try.func51, t51⟩, ⟨_, _, Try.func84, t84⟩, ⟨_, _, Try.func112, t112⟩, ⟨_, _, Try.func113, t113⟩, ⟨_, _, Try.func114, t114⟩, ⟨_, _, Try.func85, t85⟩, ⟨_, _, Try.func52, t52⟩, ⟨_, _, Try.func12, t12⟩, ⟨_, _, Try.func53, t53⟩, ⟨_, _, Try.func86, t86⟩, ⟨_, _, Try.func115, t115⟩, ⟨_, _, Try.func54, t54⟩, trivial⟩
theorem orders : Try.prog.follows .mixedOrders = true := by kernel_rfl
end Go.Proofs.Ytefehcmhdiifnaa.modelReplies.Code
