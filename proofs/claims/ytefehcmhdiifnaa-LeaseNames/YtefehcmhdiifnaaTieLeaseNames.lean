/- The code is what the compiler makes of the program. -/
import Derived.Test.YtefehcmhdiifnaaRows
import Derived.Test.YtefehcmhdiifnaaTabLeaseNames
import Derived.Test.YtefehcmhdiifnaaAmC
import Derived.KernelRfl
set_option maxRecDepth 100000
namespace Go.Proofs.Ytefehcmhdiifnaa.leaseNames.Code
open Go Go.Am
theorem t8 : compF Try.prog (atN []) Try.f8 = some c8 := by kernel_rfl
theorem t37 : compF Try.prog (atN []) Try.f37 = some c37 := by kernel_rfl
theorem t73 : compF Try.prog (atN []) Try.f73 = some c73 := by kernel_rfl
theorem t31 : compF Try.prog (atN []) Try.f31 = some c31 := by kernel_rfl
theorem t40 : compF Try.prog (atN [[0, 3, 4, 14, 15, 16], [0, 3, 4, 14, 15, 16, 47, 48, 49]]) Try.f40 = some c40 := by kernel_rfl
theorem t36 : compF Try.prog (atN [[1, 43, 44, 45]]) Try.f36 = some c36 := by kernel_rfl
theorem t70 : compF Try.prog (atN [[1, 3, 25, 26, 27], [3, 6, 39, 40, 41], [3, 6, 7, 39, 40, 41, 47, 48, 49], [3, 6, 59, 60], [3, 6, 11, 59, 60, 63, 64], [3, 6, 11, 12, 59, 60, 63, 64, 67, 68], [6, 97, 98]]) Try.f70 = some c70 := by kernel_rfl
theorem t100 : compF Try.prog (atN [[0, 1, 7, 29, 30, 31]]) Try.f100 = some c100 := by kernel_rfl
theorem t71 : compF Try.prog (atN []) Try.f71 = some c71 := by kernel_rfl
theorem t101 : compF Try.prog (atN []) Try.f101 = some c101 := by kernel_rfl
theorem t102 : compF Try.prog (atN []) Try.f102 = some c102 := by kernel_rfl
theorem t125 : compF Try.prog (atN []) Try.f125 = some c125 := by kernel_rfl
theorem t126 : compF Try.prog (atN []) Try.f126 = some c126 := by kernel_rfl
theorem t72 : compF Try.prog (atN [[1, 11, 12, 13]]) Try.f72 = some c72 := by kernel_rfl
theorem t103 : compF Try.prog (atN []) Try.f103 = some c103 := by kernel_rfl
theorem t128 : compF Try.prog (atN []) Try.f128 = some c128 := by kernel_rfl
theorem t127 : compF Try.prog (atN []) Try.f127 = some c127 := by kernel_rfl
theorem t159 : compF Try.prog (atN [[0, 1, 7, 8]]) Try.f159 = some c159 := by kernel_rfl
theorem t104 : compF Try.prog (atN []) Try.f104 = some c104 := by kernel_rfl
theorem t130 : compF Try.prog (atN []) Try.f130 = some c130 := by kernel_rfl
theorem t131 : compF Try.prog (atN []) Try.f131 = some c131 := by kernel_rfl
theorem t161 : compF Try.prog (atN []) Try.f161 = some c161 := by kernel_rfl
theorem t175 : compF Try.prog (atN [[0, 1, 7, 8]]) Try.f175 = some c175 := by kernel_rfl
theorem t129 : compF Try.prog (atN []) Try.f129 = some c129 := by kernel_rfl
theorem t160 : compF Try.prog (atN [[0, 1, 7, 8]]) Try.f160 = some c160 := by kernel_rfl
theorem t105 : compF Try.prog (atN []) Try.f105 = some c105 := by kernel_rfl
theorem t132 : compF Try.prog (atN []) Try.f132 = some c132 := by kernel_rfl
theorem t75 : compF Try.prog (atN []) Try.f75 = some c75 := by kernel_rfl
theorem t74 : compF Try.prog (atN []) Try.f74 = some c74 := by kernel_rfl
theorem t106 : compF Try.prog (atN [[0, 1, 7, 8]]) Try.f106 = some c106 := by kernel_rfl
theorem t76 : compF Try.prog (atN []) Try.f76 = some c76 := by kernel_rfl
theorem t66 : compF Try.prog (atN [[1, 5, 10, 11, 12], [1, 5, 7, 10, 11, 12, 17, 18, 19]]) Try.f66 = some c66 := by kernel_rfl
theorem t33 : compF Try.prog (atN []) Try.f33 = some c33 := by kernel_rfl
theorem t96 : compF Try.prog (atN []) Try.f96 = some c96 := by kernel_rfl
theorem t123 : compF Try.prog (atN []) Try.f123 = some c123 := by kernel_rfl
theorem t149 : compF Try.prog (atN []) Try.f149 = some c149 := by kernel_rfl
theorem t150 : compF Try.prog (atN []) Try.f150 = some c150 := by kernel_rfl
theorem t124 : compF Try.prog (atN [[0, 1, 2, 3, 4, 10, 11]]) Try.f124 = some c124 := by kernel_rfl
theorem t151 : compF Try.prog (atN [[0, 1, 2, 3, 8], [0, 1, 2, 3, 8, 9]]) Try.f151 = some c151 := by kernel_rfl
theorem t152 : compF Try.prog (atN [[0, 3, 8, 9, 10, 11], [0, 3, 8, 9, 12]]) Try.f152 = some c152 := by kernel_rfl
theorem t172 : compF Try.prog (atN [[0, 2, 3, 4, 10]]) Try.f172 = some c172 := by kernel_rfl
theorem t153 : compF Try.prog (atN [[0, 1, 8, 9, 10, 11]]) Try.f153 = some c153 := by kernel_rfl
theorem t168 : compF Try.prog (atN []) Try.f168 = some c168 := by kernel_rfl
theorem t169 : compF Try.prog (atN []) Try.f169 = some c169 := by kernel_rfl
theorem t154 : compF Try.prog (atN []) Try.f154 = some c154 := by kernel_rfl
theorem t173 : compF Try.prog (atN []) Try.f173 = some c173 := by kernel_rfl
theorem t174 : compF Try.prog (atN []) Try.f174 = some c174 := by kernel_rfl
theorem t178 : compF Try.prog (atN []) Try.f178 = some c178 := by kernel_rfl
theorem t155 : compF Try.prog (atN [[0, 8, 9]]) Try.f155 = some c155 := by kernel_rfl
theorem t156 : compF Try.prog (atN [[0, 1, 2, 3, 9, 10], [0, 1, 2, 3, 9, 10], [0, 1, 2, 3, 9, 10, 11], [0, 1, 2, 3, 9, 10, 12]]) Try.f156 = some c156 := by kernel_rfl
theorem t157 : compF Try.prog (atN [[0, 1, 4, 11, 12], [0, 1, 4, 11, 12], [0, 1, 4, 11, 12]]) Try.f157 = some c157 := by kernel_rfl
theorem t158 : compF Try.prog (atN [[0, 1, 4, 12, 13], [0, 1, 4, 12, 13], [0, 1, 4, 12, 13], [0, 1, 4, 12, 13], [0, 1, 4, 12, 13]]) Try.f158 = some c158 := by kernel_rfl
theorem t97 : compF Try.prog (atN []) Try.f97 = some c97 := by kernel_rfl
theorem t69 : compF Try.prog (atN []) Try.f69 = some c69 := by kernel_rfl
theorem t99 : compF Try.prog (atN []) Try.f99 = some c99 := by kernel_rfl
theorem t98 : compF Try.prog (atN [[3, 6, 7, 8]]) Try.f98 = some c98 := by kernel_rfl
theorem t38 : compF Try.prog (atN [[5, 15, 16, 17], [5, 15, 16, 17, 22, 23, 24]]) Try.f38 = some c38 := by kernel_rfl
theorem t35 : compF Try.prog (atN [[2, 6, 7, 8, 19, 20, 21], [2, 6, 7, 8, 10, 19, 20, 21, 26, 27, 28]]) Try.f35 = some c35 := by kernel_rfl
theorem t32 : compF Try.prog (atN []) Try.f32 = some c32 := by kernel_rfl
theorem t67 : compF Try.prog (atN [[0, 1, 2, 8, 9, 10]]) Try.f67 = some c67 := by kernel_rfl
theorem t68 : compF Try.prog (atN []) Try.f68 = some c68 := by kernel_rfl
theorem t39 : compF Try.prog (atN [[1, 15, 16, 17]]) Try.f39 = some c39 := by kernel_rfl
theorem t30 : compF Try.prog (atN []) Try.f30 = some c30 := by kernel_rfl
theorem t28 : compF Try.prog (atN []) Try.f28 = some c28 := by kernel_rfl
def table : List (Nat × CF) := [(8, c8), (37, c37), (73, c73), (31, c31), (40, c40), (36, c36), (70, c70), (100, c100), (71, c71), (101, c101), (102, c102), (125, c125), (126, c126), (72, c72), (103, c103), (128, c128), (127, c127), (159, c159), (104, c104), (130, c130), (131, c131), (161, c161), (175, c175), (129, c129), (160, c160), (105, c105), (132, c132), (75, c75), (74, c74), (106, c106), (76, c76), (66, c66), (33, c33), (96, c96), (123, c123), (149, c149), (150, c150), (124, c124), (151, c151), (152, c152), (172, c172), (153, c153), (168, c168), (169, c169), (154, c154), (173, c173), (174, c174), (178, c178), (155, c155), (156, c156), (157, c157), (158, c158), (97, c97), (69, c69), (99, c99), (98, c98), (38, c38), (35, c35), (32, c32), (67, c67), (68, c68), (39, c39), (30, c30), (28, c28)]
theorem tied : Tied Try.prog table := ⟨⟨_, _, Try.func8, t8⟩, ⟨_, _, Try.func37, t37⟩, ⟨_, _, Try.func73, t73⟩, ⟨_, _, Try.func31, t31⟩, ⟨_, _, Try.func40, t40⟩, ⟨_, _, Try.func36, t36⟩, ⟨_, _, Try.func70, t70⟩, ⟨_, _, Try.func100, t100⟩, ⟨_, _, Try.func71, t71⟩, ⟨_, _, Try.func101, t101⟩, ⟨_, _, Try.func102, t102⟩, ⟨_, _, Try.func125, t125⟩, ⟨_, _, Try.func126, t126⟩, ⟨_, _, Try.func72, t72⟩, ⟨_, _, Try.func103, t103⟩, ⟨_, _, Try.func128, t128⟩, ⟨_, _, Try.func127, t127⟩, ⟨_, _, Try.func159, t159⟩, ⟨_, _, Try.func104, t104⟩, ⟨_, _, Try.func130, t130⟩, ⟨_, _, Try.func131, t131⟩, ⟨_, _, Try.func161, t161⟩, ⟨_, _, Try.func175, t175⟩, ⟨_, _, Try.func129, t129⟩, ⟨_, _, Try.func160, t160⟩, ⟨_, _, Try.func105, t105⟩, ⟨_, _, Try.func132, t132⟩, ⟨_, _, Try.func75, t75⟩, ⟨_, _, Try.func74, t74⟩, ⟨_, _, Try.func106, t106⟩, ⟨_, _, Try.func76, t76⟩, ⟨_, _, Try.func66, t66⟩, ⟨_, _, Try.func33, t33⟩, ⟨_, _, Try.func96, t96⟩, ⟨_, _, Try.func123, t123⟩, ⟨_, _, Try.func149, t149⟩, ⟨_, _, Try.func150, t150⟩, ⟨_, _, Try.func124, t124⟩, ⟨_, _, Try.func151, t151⟩, ⟨_, _, Try.func152, t152⟩, ⟨_, _, Try.func172, t172⟩, ⟨_, _, Try.func153, t153⟩, ⟨_, _, Try.func168, t168⟩, ⟨_, _, Try.func169, t169⟩, ⟨_, _, Try.func154, t154⟩, ⟨_, _, Try.func173, t173⟩, ⟨_, _, Try.func174, t174⟩, ⟨_, _, Try.func178, t178⟩, ⟨_, _, Try.func155, t155⟩, ⟨_, _, Try.func156, t156⟩, ⟨_, _, Try.func157, t157⟩, ⟨_, _, Try.func158, t158⟩, ⟨_, _, Try.func97, t97⟩, ⟨_, _, Try.func69, t69⟩, ⟨_, _, Try.func99, t99⟩, ⟨_, _, Try.func98, t98⟩, ⟨_, _, Try.func38, t38⟩, ⟨_, _, Try.func35, t35⟩, ⟨_, _, Try.func32, t32⟩, ⟨_, _, Try.func67, t67⟩, ⟨_, _, Try.func68, t68⟩, ⟨_, _, Try.func39, t39⟩, ⟨_, _, Try.func30, t30⟩, ⟨_, _, Try.func28, t28⟩, trivial⟩
noncomputable def cfg : Cfg := { code := find table, own := fun _ => [], inl := fun _ => true, ext := fun _ _ => none }
theorem cfg_ok : CfgOk Try.prog cfg := cfgOk_of tied rfl rfl
theorem orders : Try.prog.follows .mixedOrders = true := by kernel_rfl
end Go.Proofs.Ytefehcmhdiifnaa.leaseNames.Code
