/- The code is what the compiler makes of the program. -/
import Derived.Test.YtefehcmhdiifnaaRows
import Derived.Test.YtefehcmhdiifnaaTabLeaseTells
import Derived.Test.YtefehcmhdiifnaaSmD
import Derived.KernelRfl
set_option maxRecDepth 100000
set_option linter.unusedVariables false
set_option linter.constructorNameAsVariable false
namespace Go.Proofs.Ytefehcmhdiifnaa.leaseTells.Code
open Go Go.Am
theorem t10 : compF Try.prog (atN [[1, 3, 1000640]]) Try.f10 = some c10 := by kernel_rfl
theorem t107 : compF Try.prog (atN [[1, 2, 3, 4, 1006848]]) Try.f107 = some c107 := by kernel_rfl
theorem t100 : compF Try.prog (atN [[0, 1, 7, 29, 30, 31, 1006400]]) Try.f100 = some c100 := by kernel_rfl
theorem t101 : compF Try.prog (atN []) Try.f101 = some c101 := by kernel_rfl
theorem t125 : compF Try.prog (atN []) Try.f125 = some c125 := by kernel_rfl
theorem t126 : compF Try.prog (atN []) Try.f126 = some c126 := by kernel_rfl
theorem t128 : compF Try.prog (atN []) Try.f128 = some c128 := by kernel_rfl
theorem t159 : compF Try.prog (atN [[0, 1, 7, 8, 1010176]]) Try.f159 = some c159 := by kernel_rfl
theorem t175 : compF Try.prog (atN [[0, 1, 7, 8, 1011200]]) Try.f175 = some c175 := by kernel_rfl
theorem t160 : compF Try.prog (atN [[0, 1, 7, 8, 1010240]]) Try.f160 = some c160 := by kernel_rfl
theorem t75 : compF Try.prog (atN []) Try.f75 = some c75 := by kernel_rfl
theorem t106 : compF Try.prog (atN [[0, 1, 7, 8, 1006784]]) Try.f106 = some c106 := by kernel_rfl
theorem t76 : compF Try.prog (atN []) Try.f76 = some c76 := by kernel_rfl
theorem t67 : compF Try.prog (atN [[0, 1, 2, 8, 9, 10, 1004288]]) Try.f67 = some c67 := by kernel_rfl
theorem t99 : compF Try.prog (atN []) Try.f99 = some c99 := by kernel_rfl
theorem t81 : compF Try.prog (atN []) Try.f81 = some c81 := by kernel_rfl
theorem t162 : compF Try.prog (atN [[1, 2, 5, 6, 1010368]]) Try.f162 = some c162 := by kernel_rfl
theorem t176 : compF Try.prog (atN [[1, 2, 5, 1011264]]) Try.f176 = some c176 := by kernel_rfl
theorem t135 : compF Try.prog (atN []) Try.f135 = some c135 := by kernel_rfl
theorem t164 : compF Try.prog (atN [[1, 2, 5, 6, 1010496]]) Try.f164 = some c164 := by kernel_rfl
theorem t165 : compF Try.prog (atN [[2, 5, 6, 1010560]]) Try.f165 = some c165 := by kernel_rfl
theorem t137 : compF Try.prog (atN []) Try.f137 = some c137 := by kernel_rfl
theorem t78 : compF Try.prog (atN [[0, 1, 5, 1004992]]) Try.f78 = some c78 := by kernel_rfl
theorem t79 : compF Try.prog (atN [[0, 1, 6, 1005056]]) Try.f79 = some c79 := by kernel_rfl
theorem t80 : compF Try.prog (atN [[0, 2, 4, 5, 6, 7, 1005120], [0, 2, 4, 5, 6, 7, 8, 1005121]]) Try.f80 = some c80 := by kernel_rfl
theorem t33 : compF Try.prog (atN []) Try.f33 = some c33 := by kernel_rfl
theorem t149 : compF Try.prog (atN []) Try.f149 = some c149 := by kernel_rfl
theorem t150 : compF Try.prog (atN []) Try.f150 = some c150 := by kernel_rfl
theorem t151 : compF Try.prog (atN [[0, 1, 2, 3, 8, 1009664], [0, 1, 2, 3, 8, 9, 1009665]]) Try.f151 = some c151 := by kernel_rfl
theorem t172 : compF Try.prog (atN [[0, 2, 3, 4, 10, 1011008]]) Try.f172 = some c172 := by kernel_rfl
theorem t169 : compF Try.prog (atN []) Try.f169 = some c169 := by kernel_rfl
theorem t178 : compF Try.prog (atN []) Try.f178 = some c178 := by kernel_rfl
theorem t155 : compF Try.prog (atN [[0, 8, 9, 1009920]]) Try.f155 = some c155 := by kernel_rfl
theorem t156 : compF Try.prog (atN [[0, 1, 2, 3, 9, 10, 1009984], [0, 1, 2, 3, 9, 10, 1009985], [0, 1, 2, 3, 9, 10, 11, 1009986], [0, 1, 2, 3, 9, 10, 12, 1009987]]) Try.f156 = some c156 := by kernel_rfl
theorem t157 : compF Try.prog (atN [[0, 1, 4, 11, 12, 1010048], [0, 1, 4, 11, 12, 1010049], [0, 1, 4, 11, 12, 1010050]]) Try.f157 = some c157 := by kernel_rfl
theorem t158 : compF Try.prog (atN [[0, 1, 4, 12, 13, 1010112], [0, 1, 4, 12, 13, 1010113], [0, 1, 4, 12, 13, 1010114], [0, 1, 4, 12, 13, 1010115], [0, 1, 4, 12, 13, 1010116]]) Try.f158 = some c158 := by kernel_rfl
theorem t98 : compF Try.prog (atN [[3, 6, 7, 8, 1006272]]) Try.f98 = some c98 := by kernel_rfl
theorem t108 : compF Try.prog (atN []) Try.f108 = some c108 := by kernel_rfl
theorem t133 : compF Try.prog (atN []) Try.f133 = some c133 := by kernel_rfl
theorem t48 : compF Try.prog (atN [[0, 1, 5, 1003072]]) Try.f48 = some c48 := by kernel_rfl
theorem t115 : compF Try.prog (atN [[0, 1, 5, 1007360]]) Try.f115 = some c115 := by kernel_rfl
theorem t65 : compF Try.prog (atN []) Try.f65 = some c65 := by kernel_rfl
theorem t77 : compF Try.prog (atN []) Try.f77 = some c77 := by kernel_rfl
theorem t70 : compF Try.prog (atN [[1, 3, 25, 26, 27, 1004480], [3, 6, 39, 40, 41, 1004481], [3, 6, 7, 39, 40, 41, 47, 48, 49, 1004482], [3, 6, 59, 60, 1004483], [3, 6, 11, 59, 60, 63, 64, 1004484], [3, 6, 11, 12, 59, 60, 63, 64, 67, 68, 1004485], [6, 97, 98, 1004486]]) Try.f70 = some c70 := by kernel_rfl
theorem t102 : compF Try.prog (atN []) Try.f102 = some c102 := by kernel_rfl
theorem t127 : compF Try.prog (atN []) Try.f127 = some c127 := by kernel_rfl
theorem t161 : compF Try.prog (atN []) Try.f161 = some c161 := by kernel_rfl
theorem t129 : compF Try.prog (atN []) Try.f129 = some c129 := by kernel_rfl
theorem t74 : compF Try.prog (atN []) Try.f74 = some c74 := by kernel_rfl
theorem t69 : compF Try.prog (atN []) Try.f69 = some c69 := by kernel_rfl
theorem t163 : compF Try.prog (atN [[1, 3, 4, 5, 1010432], [1, 3, 4, 5, 6, 1010433]]) Try.f163 = some c163 := by kernel_rfl
theorem t136 : compF Try.prog (atN [[1, 3, 4, 5, 6, 7, 1008704]]) Try.f136 = some c136 := by kernel_rfl
theorem t111 : compF Try.prog (atN [[2, 3, 4, 7, 1007104], [2, 3, 4, 7, 8, 1007105]]) Try.f111 = some c111 := by kernel_rfl
theorem t123 : compF Try.prog (atN []) Try.f123 = some c123 := by kernel_rfl
theorem t152 : compF Try.prog (atN [[0, 3, 8, 9, 10, 11, 1009728], [0, 3, 8, 9, 12, 1009729]]) Try.f152 = some c152 := by kernel_rfl
theorem t168 : compF Try.prog (atN []) Try.f168 = some c168 := by kernel_rfl
theorem t174 : compF Try.prog (atN []) Try.f174 = some c174 := by kernel_rfl
theorem t97 : compF Try.prog (atN []) Try.f97 = some c97 := by kernel_rfl
theorem t109 : compF Try.prog (atN [[0, 3, 5, 6, 7, 1006976]]) Try.f109 = some c109 := by kernel_rfl
theorem t86 : compF Try.prog (atN [[2, 3, 5, 1005504]]) Try.f86 = some c86 := by kernel_rfl
theorem t29 : compF Try.prog (atN [[0, 3, 1001856]]) Try.f29 = some c29 := by kernel_rfl
theorem t41 : compF Try.prog (atN [[0, 3, 4, 1002624]]) Try.f41 = some c41 := by kernel_rfl
theorem t71 : compF Try.prog (atN []) Try.f71 = some c71 := by kernel_rfl
theorem t103 : compF Try.prog (atN []) Try.f103 = some c103 := by kernel_rfl
theorem t131 : compF Try.prog (atN []) Try.f131 = some c131 := by kernel_rfl
theorem t132 : compF Try.prog (atN []) Try.f132 = some c132 := by kernel_rfl
theorem t68 : compF Try.prog (atN []) Try.f68 = some c68 := by kernel_rfl
theorem t134 : compF Try.prog (atN [[1, 3, 1008576]]) Try.f134 = some c134 := by kernel_rfl
theorem t153 : compF Try.prog (atN [[0, 1, 8, 9, 10, 11, 1009792]]) Try.f153 = some c153 := by kernel_rfl
theorem t173 : compF Try.prog (atN []) Try.f173 = some c173 := by kernel_rfl
theorem t82 : compF Try.prog (atN [[0, 1, 5, 6, 1005248], [0, 1, 5, 6, 7, 1005249]]) Try.f82 = some c82 := by kernel_rfl
theorem t53 : compF Try.prog (atN [[2, 3, 5, 1003392]]) Try.f53 = some c53 := by kernel_rfl
theorem t130 : compF Try.prog (atN []) Try.f130 = some c130 := by kernel_rfl
theorem t105 : compF Try.prog (atN []) Try.f105 = some c105 := by kernel_rfl
theorem t110 : compF Try.prog (atN [[1, 3, 1007040]]) Try.f110 = some c110 := by kernel_rfl
theorem t154 : compF Try.prog (atN []) Try.f154 = some c154 := by kernel_rfl
theorem t50 : compF Try.prog (atN [[0, 1, 5, 1003200]]) Try.f50 = some c50 := by kernel_rfl
theorem t104 : compF Try.prog (atN []) Try.f104 = some c104 := by kernel_rfl
theorem t83 : compF Try.prog (atN [[0, 3, 1005312], [0, 3, 4, 1005313]]) Try.f83 = some c83 := by kernel_rfl
theorem t124 : compF Try.prog (atN [[0, 1, 2, 3, 4, 10, 11, 1007936]]) Try.f124 = some c124 := by kernel_rfl
theorem t72 : compF Try.prog (atN [[1, 11, 12, 13, 1004608]]) Try.f72 = some c72 := by kernel_rfl
theorem t49 : compF Try.prog (atN []) Try.f49 = some c49 := by kernel_rfl
theorem t43 : compF Try.prog (atN []) Try.f43 = some c43 := by kernel_rfl
theorem t44 : compF Try.prog (atN []) Try.f44 = some c44 := by kernel_rfl
theorem t96 : compF Try.prog (atN []) Try.f96 = some c96 := by kernel_rfl
theorem t45 : compF Try.prog (atN []) Try.f45 = some c45 := by kernel_rfl
theorem t46 : compF Try.prog (atN [[0, 6, 7, 8, 1002944], [0, 6, 7, 8, 9, 1002945]]) Try.f46 = some c46 := by kernel_rfl
theorem t47 : compF Try.prog (atN [[0, 5, 6, 1003008], [0, 5, 6, 7, 1003009]]) Try.f47 = some c47 := by kernel_rfl
theorem t36 : compF Try.prog (atN [[1, 43, 44, 45, 1002304]]) Try.f36 = some c36 := by kernel_rfl
theorem t42 : compF Try.prog (atN []) Try.f42 = some c42 := by kernel_rfl
theorem t66 : compF Try.prog (atN [[1, 5, 10, 11, 12, 1004224], [1, 5, 7, 10, 11, 12, 17, 18, 19, 1004225]]) Try.f66 = some c66 := by kernel_rfl
theorem t40 : compF Try.prog (atN [[0, 3, 4, 14, 15, 16, 1002560], [0, 3, 4, 14, 15, 16, 47, 48, 49, 1002561]]) Try.f40 = some c40 := by kernel_rfl
theorem t39 : compF Try.prog (atN [[1, 15, 16, 17, 1002496]]) Try.f39 = some c39 := by kernel_rfl
theorem t35 : compF Try.prog (atN [[2, 6, 7, 8, 19, 20, 21, 1002240], [2, 6, 7, 8, 10, 19, 20, 21, 26, 27, 28, 1002241]]) Try.f35 = some c35 := by kernel_rfl
theorem t30 : compF Try.prog (atN []) Try.f30 = some c30 := by kernel_rfl
theorem t31 : compF Try.prog (atN []) Try.f31 = some c31 := by kernel_rfl
theorem t38 : compF Try.prog (atN [[5, 15, 16, 17, 1002432], [5, 15, 16, 17, 22, 23, 24, 1002433]]) Try.f38 = some c38 := by kernel_rfl
theorem t32 : compF Try.prog (atN []) Try.f32 = some c32 := by kernel_rfl
theorem t9 : compF Try.prog (atN []) Try.f9 = some c9 := by kernel_rfl
theorem orders : Try.prog.follows .mixedOrders = true := by kernel_rfl
end Go.Proofs.Ytefehcmhdiifnaa.leaseTells.Code
