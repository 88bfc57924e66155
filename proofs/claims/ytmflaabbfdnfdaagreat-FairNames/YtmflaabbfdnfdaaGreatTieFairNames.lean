/- The code is what the compiler makes of the program. -/
import Derived.Test.YtmflaabbfdnfdaaGreatRows
import Derived.Test.YtmflaabbfdnfdaaGreatTabFairNames0
import Derived.Test.YtmflaabbfdnfdaaGreatTabFairNames1
import Derived.Test.YtmflaabbfdnfdaaGreatAmC
import Derived.KernelRfl
set_option maxRecDepth 100000
namespace Go.Proofs.YtmflaabbfdnfdaaGreat.fairNames.Code
open Go Go.Am
theorem t4 : compF Tryz.prog (atN []) Tryz.f4 = some c4 := by kernel_rfl
theorem t11 : compF Tryz.prog (atN []) Tryz.f11 = some c11 := by kernel_rfl
theorem t16 : compF Tryz.prog (atN []) Tryz.f16 = some c16 := by kernel_rfl
theorem t6 : compF Tryz.prog (atN []) Tryz.f6 = some c6 := by kernel_rfl
theorem t17 : compF Tryz.prog (atN [[1, 79, 80, 81], [1, 99, 100, 101]]) Tryz.f17 = some c17 := by kernel_rfl
theorem t26 : compF Tryz.prog (atN []) Tryz.f26 = some c26 := by kernel_rfl
theorem t27 : compF Tryz.prog (atN [[0, 3, 4, 14, 15, 16], [0, 3, 4, 14, 15, 16, 47, 48, 49]]) Tryz.f27 = some c27 := by kernel_rfl
theorem t48 : compF Tryz.prog (atN [[1, 43, 44, 45]]) Tryz.f48 = some c48 := by kernel_rfl
theorem t53 : compF Tryz.prog (atN [[1, 3, 25, 26, 27], [3, 6, 39, 40, 41], [3, 6, 7, 39, 40, 41, 47, 48, 49], [3, 6, 59, 60], [3, 6, 11, 59, 60, 63, 64], [3, 6, 11, 12, 59, 60, 63, 64, 67, 68], [6, 97, 98]]) Tryz.f53 = some c53 := by kernel_rfl
theorem t79 : compF Tryz.prog (atN [[0, 1, 7, 29, 30, 31]]) Tryz.f79 = some c79 := by kernel_rfl
theorem t76 : compF Tryz.prog (atN []) Tryz.f76 = some c76 := by kernel_rfl
theorem t97 : compF Tryz.prog (atN []) Tryz.f97 = some c97 := by kernel_rfl
theorem t98 : compF Tryz.prog (atN []) Tryz.f98 = some c98 := by kernel_rfl
theorem t108 : compF Tryz.prog (atN []) Tryz.f108 = some c108 := by kernel_rfl
theorem t107 : compF Tryz.prog (atN []) Tryz.f107 = some c107 := by kernel_rfl
theorem t77 : compF Tryz.prog (atN [[1, 11, 12, 13]]) Tryz.f77 = some c77 := by kernel_rfl
theorem t99 : compF Tryz.prog (atN []) Tryz.f99 = some c99 := by kernel_rfl
theorem t120 : compF Tryz.prog (atN []) Tryz.f120 = some c120 := by kernel_rfl
theorem t119 : compF Tryz.prog (atN []) Tryz.f119 = some c119 := by kernel_rfl
theorem t129 : compF Tryz.prog (atN [[0, 1, 7, 8]]) Tryz.f129 = some c129 := by kernel_rfl
theorem t100 : compF Tryz.prog (atN []) Tryz.f100 = some c100 := by kernel_rfl
theorem t121 : compF Tryz.prog (atN []) Tryz.f121 = some c121 := by kernel_rfl
theorem t122 : compF Tryz.prog (atN []) Tryz.f122 = some c122 := by kernel_rfl
theorem t130 : compF Tryz.prog (atN []) Tryz.f130 = some c130 := by kernel_rfl
theorem t141 : compF Tryz.prog (atN [[0, 1, 7, 8]]) Tryz.f141 = some c141 := by kernel_rfl
theorem t29 : compF Tryz.prog (atN []) Tryz.f29 = some c29 := by kernel_rfl
theorem t52 : compF Tryz.prog (atN [[0, 1, 7, 8]]) Tryz.f52 = some c52 := by kernel_rfl
theorem t101 : compF Tryz.prog (atN []) Tryz.f101 = some c101 := by kernel_rfl
theorem t123 : compF Tryz.prog (atN []) Tryz.f123 = some c123 := by kernel_rfl
theorem t50 : compF Tryz.prog (atN []) Tryz.f50 = some c50 := by kernel_rfl
theorem t49 : compF Tryz.prog (atN []) Tryz.f49 = some c49 := by kernel_rfl
theorem t78 : compF Tryz.prog (atN [[0, 1, 7, 8]]) Tryz.f78 = some c78 := by kernel_rfl
theorem t51 : compF Tryz.prog (atN []) Tryz.f51 = some c51 := by kernel_rfl
theorem t28 : compF Tryz.prog (atN []) Tryz.f28 = some c28 := by kernel_rfl
theorem t30 : compF Tryz.prog (atN []) Tryz.f30 = some c30 := by kernel_rfl
theorem t18 : compF Tryz.prog (atN []) Tryz.f18 = some c18 := by kernel_rfl
theorem t19 : compF Tryz.prog (atN []) Tryz.f19 = some c19 := by kernel_rfl
theorem t31 : compF Tryz.prog (atN []) Tryz.f31 = some c31 := by kernel_rfl
theorem t54 : compF Tryz.prog (atN [[1, 15, 16, 17]]) Tryz.f54 = some c54 := by kernel_rfl
theorem t55 : compF Tryz.prog (atN []) Tryz.f55 = some c55 := by kernel_rfl
theorem t80 : compF Tryz.prog (atN []) Tryz.f80 = some c80 := by kernel_rfl
theorem t42 : compF Tryz.prog (atN [[1, 2, 15, 16, 17]]) Tryz.f42 = some c42 := by kernel_rfl
theorem t69 : compF Tryz.prog (atN []) Tryz.f69 = some c69 := by kernel_rfl
theorem t70 : compF Tryz.prog (atN []) Tryz.f70 = some c70 := by kernel_rfl
theorem t81 : compF Tryz.prog (atN [[1, 2, 9, 10, 11]]) Tryz.f81 = some c81 := by kernel_rfl
theorem t102 : compF Tryz.prog (atN []) Tryz.f102 = some c102 := by kernel_rfl
theorem t106 : compF Tryz.prog (atN []) Tryz.f106 = some c106 := by kernel_rfl
theorem t125 : compF Tryz.prog (atN []) Tryz.f125 = some c125 := by kernel_rfl
theorem t56 : compF Tryz.prog (atN []) Tryz.f56 = some c56 := by kernel_rfl
theorem t32 : compF Tryz.prog (atN []) Tryz.f32 = some c32 := by kernel_rfl
theorem t57 : compF Tryz.prog (atN []) Tryz.f57 = some c57 := by kernel_rfl
theorem t58 : compF Tryz.prog (atN [[2, 6, 7, 8, 19, 20, 21], [2, 6, 7, 8, 10, 19, 20, 21, 26, 27, 28]]) Tryz.f58 = some c58 := by kernel_rfl
theorem t59 : compF Tryz.prog (atN []) Tryz.f59 = some c59 := by kernel_rfl
theorem t82 : compF Tryz.prog (atN []) Tryz.f82 = some c82 := by kernel_rfl
theorem t103 : compF Tryz.prog (atN [[0, 1, 2, 8, 9, 10]]) Tryz.f103 = some c103 := by kernel_rfl
theorem t104 : compF Tryz.prog (atN []) Tryz.f104 = some c104 := by kernel_rfl
theorem t105 : compF Tryz.prog (atN []) Tryz.f105 = some c105 := by kernel_rfl
theorem t124 : compF Tryz.prog (atN []) Tryz.f124 = some c124 := by kernel_rfl
theorem t61 : compF Tryz.prog (atN []) Tryz.f61 = some c61 := by kernel_rfl
theorem t60 : compF Tryz.prog (atN []) Tryz.f60 = some c60 := by kernel_rfl
theorem t84 : compF Tryz.prog (atN []) Tryz.f84 = some c84 := by kernel_rfl
theorem t85 : compF Tryz.prog (atN []) Tryz.f85 = some c85 := by kernel_rfl
theorem t83 : compF Tryz.prog (atN []) Tryz.f83 = some c83 := by kernel_rfl
theorem t92 : compF Tryz.prog (atN [[1, 8, 9, 10]]) Tryz.f92 = some c92 := by kernel_rfl
theorem t111 : compF Tryz.prog (atN []) Tryz.f111 = some c111 := by kernel_rfl
theorem t33 : compF Tryz.prog (atN []) Tryz.f33 = some c33 := by kernel_rfl
theorem t62 : compF Tryz.prog (atN []) Tryz.f62 = some c62 := by kernel_rfl
theorem t86 : compF Tryz.prog (atN []) Tryz.f86 = some c86 := by kernel_rfl
theorem t87 : compF Tryz.prog (atN []) Tryz.f87 = some c87 := by kernel_rfl
theorem t109 : compF Tryz.prog (atN []) Tryz.f109 = some c109 := by kernel_rfl
theorem t34 : compF Tryz.prog (atN []) Tryz.f34 = some c34 := by kernel_rfl
theorem t63 : compF Tryz.prog (atN []) Tryz.f63 = some c63 := by kernel_rfl
theorem t88 : compF Tryz.prog (atN []) Tryz.f88 = some c88 := by kernel_rfl
theorem t89 : compF Tryz.prog (atN []) Tryz.f89 = some c89 := by kernel_rfl
theorem t110 : compF Tryz.prog (atN []) Tryz.f110 = some c110 := by kernel_rfl
theorem t126 : compF Tryz.prog (atN [[1, 5, 6]]) Tryz.f126 = some c126 := by kernel_rfl
theorem t64 : compF Tryz.prog (atN []) Tryz.f64 = some c64 := by kernel_rfl
theorem t35 : compF Tryz.prog (atN []) Tryz.f35 = some c35 := by kernel_rfl
theorem t65 : compF Tryz.prog (atN []) Tryz.f65 = some c65 := by kernel_rfl
theorem t90 : compF Tryz.prog (atN []) Tryz.f90 = some c90 := by kernel_rfl
theorem t91 : compF Tryz.prog (atN []) Tryz.f91 = some c91 := by kernel_rfl
theorem t36 : compF Tryz.prog (atN []) Tryz.f36 = some c36 := by kernel_rfl
theorem t66 : compF Tryz.prog (atN []) Tryz.f66 = some c66 := by kernel_rfl
theorem t37 : compF Tryz.prog (atN [[0, 4, 7, 45, 46, 47]]) Tryz.f37 = some c37 := by kernel_rfl
theorem t67 : compF Tryz.prog (atN []) Tryz.f67 = some c67 := by kernel_rfl
theorem t93 : compF Tryz.prog (atN [[1, 5, 10, 11, 12], [1, 5, 7, 10, 11, 12, 17, 18, 19]]) Tryz.f93 = some c93 := by kernel_rfl
theorem t94 : compF Tryz.prog (atN []) Tryz.f94 = some c94 := by kernel_rfl
theorem t112 : compF Tryz.prog (atN []) Tryz.f112 = some c112 := by kernel_rfl
theorem t128 : compF Tryz.prog (atN []) Tryz.f128 = some c128 := by kernel_rfl
theorem t139 : compF Tryz.prog (atN []) Tryz.f139 = some c139 := by kernel_rfl
theorem t140 : compF Tryz.prog (atN []) Tryz.f140 = some c140 := by kernel_rfl
theorem t127 : compF Tryz.prog (atN [[0, 1, 2, 3, 4, 10, 11]]) Tryz.f127 = some c127 := by kernel_rfl
theorem t131 : compF Tryz.prog (atN [[0, 1, 2, 3, 8], [0, 1, 2, 3, 8, 9]]) Tryz.f131 = some c131 := by kernel_rfl
theorem t132 : compF Tryz.prog (atN [[0, 3, 8, 9, 10, 11], [0, 3, 8, 9, 12]]) Tryz.f132 = some c132 := by kernel_rfl
theorem t142 : compF Tryz.prog (atN [[0, 2, 3, 4, 10]]) Tryz.f142 = some c142 := by kernel_rfl
theorem t133 : compF Tryz.prog (atN [[0, 1, 8, 9, 10, 11]]) Tryz.f133 = some c133 := by kernel_rfl
theorem t143 : compF Tryz.prog (atN []) Tryz.f143 = some c143 := by kernel_rfl
theorem t144 : compF Tryz.prog (atN []) Tryz.f144 = some c144 := by kernel_rfl
theorem t134 : compF Tryz.prog (atN []) Tryz.f134 = some c134 := by kernel_rfl
theorem t145 : compF Tryz.prog (atN []) Tryz.f145 = some c145 := by kernel_rfl
theorem t146 : compF Tryz.prog (atN []) Tryz.f146 = some c146 := by kernel_rfl
theorem t147 : compF Tryz.prog (atN []) Tryz.f147 = some c147 := by kernel_rfl
theorem t135 : compF Tryz.prog (atN [[0, 8, 9]]) Tryz.f135 = some c135 := by kernel_rfl
theorem t136 : compF Tryz.prog (atN [[0, 1, 2, 3, 9, 10], [0, 1, 2, 3, 9, 10], [0, 1, 2, 3, 9, 10, 11], [0, 1, 2, 3, 9, 10, 12]]) Tryz.f136 = some c136 := by kernel_rfl
theorem t137 : compF Tryz.prog (atN [[0, 1, 4, 11, 12], [0, 1, 4, 11, 12], [0, 1, 4, 11, 12]]) Tryz.f137 = some c137 := by kernel_rfl
theorem t138 : compF Tryz.prog (atN [[0, 1, 4, 12, 13], [0, 1, 4, 12, 13], [0, 1, 4, 12, 13], [0, 1, 4, 12, 13], [0, 1, 4, 12, 13]]) Tryz.f138 = some c138 := by kernel_rfl
theorem t113 : compF Tryz.prog (atN []) Tryz.f113 = some c113 := by kernel_rfl
theorem t114 : compF Tryz.prog (atN [[3, 6, 7, 8]]) Tryz.f114 = some c114 := by kernel_rfl
theorem t68 : compF Tryz.prog (atN []) Tryz.f68 = some c68 := by kernel_rfl
theorem t95 : compF Tryz.prog (atN []) Tryz.f95 = some c95 := by kernel_rfl
theorem t115 : compF Tryz.prog (atN []) Tryz.f115 = some c115 := by kernel_rfl
theorem t116 : compF Tryz.prog (atN []) Tryz.f116 = some c116 := by kernel_rfl
theorem t96 : compF Tryz.prog (atN []) Tryz.f96 = some c96 := by kernel_rfl
theorem t117 : compF Tryz.prog (atN []) Tryz.f117 = some c117 := by kernel_rfl
theorem t118 : compF Tryz.prog (atN []) Tryz.f118 = some c118 := by kernel_rfl
theorem t38 : compF Tryz.prog (atN []) Tryz.f38 = some c38 := by kernel_rfl
theorem t39 : compF Tryz.prog (atN []) Tryz.f39 = some c39 := by kernel_rfl
theorem t41 : compF Tryz.prog (atN []) Tryz.f41 = some c41 := by kernel_rfl
theorem t40 : compF Tryz.prog (atN []) Tryz.f40 = some c40 := by kernel_rfl
theorem t20 : compF Tryz.prog (atN [[1, 2, 13, 14, 15]]) Tryz.f20 = some c20 := by kernel_rfl
theorem t21 : compF Tryz.prog (atN []) Tryz.f21 = some c21 := by kernel_rfl
theorem t10 : compF Tryz.prog (atN []) Tryz.f10 = some c10 := by kernel_rfl
theorem t22 : compF Tryz.prog (atN []) Tryz.f22 = some c22 := by kernel_rfl
theorem t43 : compF Tryz.prog (atN []) Tryz.f43 = some c43 := by kernel_rfl
theorem t23 : compF Tryz.prog (atN [[1, 2, 4, 6, 7, 8]]) Tryz.f23 = some c23 := by kernel_rfl
theorem t44 : compF Tryz.prog (atN []) Tryz.f44 = some c44 := by kernel_rfl
theorem t45 : compF Tryz.prog (atN []) Tryz.f45 = some c45 := by kernel_rfl
theorem t46 : compF Tryz.prog (atN []) Tryz.f46 = some c46 := by kernel_rfl
theorem t71 : compF Tryz.prog (atN []) Tryz.f71 = some c71 := by kernel_rfl
theorem t12 : compF Tryz.prog (atN []) Tryz.f12 = some c12 := by kernel_rfl
theorem t24 : compF Tryz.prog (atN [[6, 7, 8]]) Tryz.f24 = some c24 := by kernel_rfl
theorem t13 : compF Tryz.prog (atN [[1, 3, 6, 10, 28, 29]]) Tryz.f13 = some c13 := by kernel_rfl
theorem t14 : compF Tryz.prog (atN []) Tryz.f14 = some c14 := by kernel_rfl
theorem t25 : compF Tryz.prog (atN [[3, 9, 10, 11], [3, 5, 9, 10, 11, 19, 20, 21]]) Tryz.f25 = some c25 := by kernel_rfl
theorem t47 : compF Tryz.prog (atN []) Tryz.f47 = some c47 := by kernel_rfl
theorem t72 : compF Tryz.prog (atN []) Tryz.f72 = some c72 := by kernel_rfl
theorem t73 : compF Tryz.prog (atN []) Tryz.f73 = some c73 := by kernel_rfl
theorem t74 : compF Tryz.prog (atN []) Tryz.f74 = some c74 := by kernel_rfl
theorem t75 : compF Tryz.prog (atN []) Tryz.f75 = some c75 := by kernel_rfl
theorem t15 : compF Tryz.prog (atN []) Tryz.f15 = some c15 := by kernel_rfl
def table : List (Nat × CF) := [(4, c4), (11, c11), (16, c16), (6, c6), (17, c17), (26, c26), (27, c27), (48, c48), (53, c53), (79, c79), (76, c76), (97, c97), (98, c98), (108, c108), (107, c107), (77, c77), (99, c99), (120, c120), (119, c119), (129, c129), (100, c100), (121, c121), (122, c122), (130, c130), (141, c141), (29, c29), (52, c52), (101, c101), (123, c123), (50, c50), (49, c49), (78, c78), (51, c51), (28, c28), (30, c30), (18, c18), (19, c19), (31, c31), (54, c54), (55, c55), (80, c80), (42, c42), (69, c69), (70, c70), (81, c81), (102, c102), (106, c106), (125, c125), (56, c56), (32, c32), (57, c57), (58, c58), (59, c59), (82, c82), (103, c103), (104, c104), (105, c105), (124, c124), (61, c61), (60, c60), (84, c84), (85, c85), (83, c83), (92, c92), (111, c111), (33, c33), (62, c62), (86, c86), (87, c87), (109, c109), (34, c34), (63, c63), (88, c88), (89, c89), (110, c110), (126, c126), (64, c64), (35, c35), (65, c65), (90, c90), (91, c91), (36, c36), (66, c66), (37, c37), (67, c67), (93, c93), (94, c94), (112, c112), (128, c128), (139, c139), (140, c140), (127, c127), (131, c131), (132, c132), (142, c142), (133, c133), (143, c143), (144, c144), (134, c134), (145, c145), (146, c146), (147, c147), (135, c135), (136, c136), (137, c137), (138, c138), (113, c113), (114, c114), (68, c68), (95, c95), (115, c115), (116, c116), (96, c96), (117, c117), (118, c118), (38, c38), (39, c39), (41, c41), (40, c40), (20, c20), (21, c21), (10, c10), (22, c22), (43, c43), (23, c23), (44, c44), (45, c45), (46, c46), (71, c71), (12, c12), (24, c24), (13, c13), (14, c14), (25, c25), (47, c47), (72, c72), (73, c73), (74, c74), (75, c75), (15, c15)]
theorem tied : Tied Tryz.prog table := ⟨⟨_, _, Tryz.func4, t4⟩, ⟨_, _, Tryz.func11, t11⟩, ⟨_, _, Tryz.func16, t16⟩, ⟨_, _, Tryz.func6, t6⟩, ⟨_, _, Tryz.func17, t17⟩, ⟨_, _, Tryz.func26, t26⟩, ⟨_, _, Tryz.func27, t27⟩, ⟨_, _, Tryz.func48, t48⟩, ⟨_, _, Tryz.func53, t53⟩, ⟨_, _, Tryz.func79, t79⟩, ⟨_, _, Tryz.func76, t76⟩, ⟨_, _, Tryz.func97, t97⟩, ⟨_, _, Tryz.func98, t98⟩, ⟨_, _, Tryz.func108, t108⟩, ⟨_, _, Tryz.func107, t107⟩, ⟨_, _, Tryz.func77, t77⟩, ⟨_, _, Tryz.func99, t99⟩, ⟨_, _, Tryz.func120, t120⟩, ⟨_, _, Tryz.func119, t119⟩, ⟨_, _, Tryz.func129, t129⟩, ⟨_, _, Tryz.func100, t100⟩, ⟨_, _, Tryz.func121, t121⟩, ⟨_, _, Tryz.func122, t122⟩, ⟨_, _, Tryz.func130, t130⟩, ⟨_, _, Tryz.func141, t141⟩, ⟨_, _, Tryz.func29, t29⟩, ⟨_, _, Tryz.func52, t52⟩, ⟨_, _, Tryz.func101, t101⟩, ⟨_, _, Tryz.func123, t123⟩, ⟨_, _, Tryz.func50, t50⟩, ⟨_, _, Tryz.func49, t49⟩, ⟨_, _, Tryz.func78, t78⟩, ⟨_, _, Tryz.func51, t51⟩, ⟨_, _, Tryz.func28, t28⟩, ⟨_, _, Tryz.func30, t30⟩, ⟨_, _, Tryz.func18, t18⟩, ⟨_, _, Tryz.func19, t19⟩, ⟨_, _, Tryz.func31, t31⟩, ⟨_, _, Tryz.func54, t54⟩, ⟨_, _, Tryz.func55, t55⟩, ⟨_, _, Tryz.func80, t80⟩, ⟨_, _, Tryz.func42, t42⟩, ⟨_, _, Tryz.func69, t69⟩, ⟨_, _, Tryz.func70, t70⟩, ⟨_, _, Tryz.func81, t81⟩, ⟨_, _, Tryz.func102, t102⟩, ⟨_, _, Tryz.func106, t106⟩, ⟨_, _, Tryz.func125, t125⟩, ⟨_, _, Tryz.func56, t56⟩, ⟨_, _, Tryz.func32, t32⟩, ⟨_, _, Tryz.func57, t57⟩, ⟨_, _, Tryz.func58, t58⟩, ⟨_, _, Tryz.func59, t59⟩, ⟨_, _, Tryz.func82, t82⟩, ⟨_, _, Tryz.func103, t103⟩, ⟨_, _, Tryz.func104, t104⟩, ⟨_, _, Tryz.func105, t105⟩, ⟨_, _, Tryz.func124, t124⟩, ⟨_, _, Tryz.func61, t61⟩, ⟨_, _, Tryz.func60, t60⟩, ⟨_, _, Tryz.func84, t84⟩, ⟨_, _, Tryz.func85, t85⟩, ⟨_, _, Tryz.func83, t83⟩, ⟨_, _, Tryz.func92, t92⟩, ⟨_, _, Tryz.func111, t111⟩, ⟨_, _, Tryz.func33, t33⟩, ⟨_, _, Tryz.func62, t62⟩, ⟨_, _, Tryz.func86, t86⟩, ⟨_, _, Tryz.func87, t87⟩, ⟨_, _, Tryz.func109, t109⟩, ⟨_, _, Tryz.func34, t34⟩, ⟨_, _, Tryz.func63, t63⟩, ⟨_, _, Tryz.func88, t88⟩, ⟨_, _, Tryz.func89, t89⟩, ⟨_, _, Tryz.func110, t110⟩, ⟨_, _, Tryz.func126, t126⟩, ⟨_, _, Tryz.func64, t64⟩, ⟨_, _, Tryz.func35, t35⟩, ⟨_, _, Tryz.func65, t65⟩, ⟨_, _, Tryz.func90, t90⟩, ⟨_, _, Tryz.func91, t91⟩, ⟨_, _, Tryz.func36, t36⟩, ⟨_, _, Tryz.func66, t66⟩, ⟨_, _, Tryz.func37, t37⟩, ⟨_, _, Tryz.func67, t67⟩, ⟨_, _, Tryz.func93, t93⟩, ⟨_, _, Tryz.func94, t94⟩, ⟨_, _, Tryz.func112, t112⟩, ⟨_, _, Tryz.func128, t128⟩, ⟨_, _, Tryz.func139, t139⟩, ⟨_, _, Tryz.func140, t140⟩, ⟨_, _, Tryz.func127, t127⟩, ⟨_, _, Tryz.func131, t131⟩, ⟨_, _, Tryz.func132, t132⟩, ⟨_, _, Tryz.func142, t142⟩, ⟨_, _, Tryz.func133, t133⟩, ⟨_, _, Tryz.func143, t143⟩, ⟨_, _, Tryz.func144, t144⟩, ⟨_, _, Tryz.func134, t134⟩, ⟨_, _, Tryz.func145, t145⟩, ⟨_, _, Tryz.func146, t146⟩, ⟨_, _, Tryz.func147, t147⟩, ⟨_, _, Tryz.func135, t135⟩, ⟨_, _, Tryz.func136, t136⟩, ⟨_, _, Tryz.func137, t137⟩, ⟨_, _, Tryz.func138, t138⟩, ⟨_, _, Tryz.func113, t113⟩, ⟨_, _, Tryz.func114, t114⟩, ⟨_, _, Tryz.func68, t68⟩, ⟨_, _, Tryz.func95, t95⟩, ⟨_, _, Tryz.func115, t115⟩, ⟨_, _, Tryz.func116, t116⟩, ⟨_, _, Tryz.func96, t96⟩, ⟨_, _, Tryz.func117, t117⟩, ⟨_, _, Tryz.func118, t118⟩, ⟨_, _, Tryz.func38, t38⟩, ⟨_, _, Tryz.func39, t39⟩, ⟨_, _, Tryz.func41, t41⟩, ⟨_, _, Tryz.func40, t40⟩, ⟨_, _, Tryz.func20, t20⟩, ⟨_, _, Tryz.func21, t21⟩, ⟨_, _, Tryz.func10, t10⟩, ⟨_, _, Tryz.func22, t22⟩, ⟨_, _, Tryz.func43, t43⟩, ⟨_, _, Tryz.func23, t23⟩, ⟨_, _, Tryz.func44, t44⟩, ⟨_, _, Tryz.func45, t45⟩, ⟨_, _, Tryz.func46, t46⟩, ⟨_, _, Tryz.func71, t71⟩, ⟨_, _, Tryz.func12, t12⟩, ⟨_, _, Tryz.func24, t24⟩, ⟨_, _, Tryz.func13, t13⟩, ⟨_, _, Tryz.func14, t14⟩, ⟨_, _, Tryz.func25, t25⟩, ⟨_, _, Tryz.func47, t47⟩, ⟨_, _, Tryz.func72, t72⟩, ⟨_, _, Tryz.func73, t73⟩, ⟨_, _, Tryz.func74, t74⟩, ⟨_, _, Tryz.func75, t75⟩, ⟨_, _, Tryz.func15, t15⟩, trivial⟩
noncomputable def cfg : Cfg := { code := find table, own := fun _ => [], inl := fun f => !([16, 6, 61, 46, 11].contains f), ext := fun _ _ => none, kl := fun f => [6].contains f }
theorem cfg_ok : CfgOk Tryz.prog cfg := cfgOk_of tied rfl rfl
theorem orders : Tryz.prog.follows .mixedOrders = true := by kernel_rfl
noncomputable def cfgS : Cfg := { code := find table, own := fun _ => [], inl := fun f => !([16, 6, 61, 46, 11, 15].contains f), ext := told [15], kl := fun f => [6].contains f }
end Go.Proofs.YtmflaabbfdnfdaaGreat.fairNames.Code
