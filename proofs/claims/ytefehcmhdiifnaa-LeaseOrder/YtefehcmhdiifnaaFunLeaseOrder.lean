/- Their code computes it. -/
import Derived.Test.YtefehcmhdiifnaaTieLeaseOrder
import Derived.Test.YtefehcmhdiifnaaDefLeaseOrder
import Derived.KernelRfl
import Derived.Test.YtefehcmhdiifnaaSrtLeaseOrder
import Derived.Test.YtefehcmhdiifnaaValLeaseOrder
set_option maxRecDepth 100000
set_option linter.unusedVariables false
set_option linter.constructorNameAsVariable false
namespace Go.Proofs.Ytefehcmhdiifnaa.leaseOrder.Code
open Go Go.Am

def K28 : Ctr := ⟨.nil, .cons .b .nil, [], [(false, 1)], [], F28⟩
theorem k28 : CtrOk Try.prog 28 K28 := closedK both28.1 both28.2
def tb10 : List (Nat × CF) := [(10, c10)]
theorem td10 : Tied Try.prog tb10 := ⟨⟨_, _, Try.func10, t10⟩, trivial⟩
noncomputable def ct10 : List (Nat × Ctr) := []
theorem h10 : CtsOk Try.prog ct10 := trivial
theorem l10_0 : LpsOk (cfgT Try.prog (look? tb10) (look? ct10) (look? wts) (([] : List (Nat × Bool)).map (·.1))) (allL tb10) [] := trivial
theorem l10_1 : LpsOk (cfgT Try.prog (look? tb10) (look? ct10) (look? wts) (([] : List (Nat × Bool)).map (·.1))) (allL tb10) [(1000640, ⟨L10_1000640p, L10_1000640o, L10_1000640⟩)] := addLoop (H := hn) (n := 60) (live := [1, 3, 1000640]) (b := c10L0) (ps := L10_1000640p) (os := L10_1000640o) (st := L10_1000640t) h10 wts_ok l10_0 (by kernel_rfl) (by kernel_rfl) (fun x => by kernel_rfl)
noncomputable def K10 : Ctr := ⟨.cons (sSpec) (.nil), .cons (.b) (.nil), [(true, 1)], [(false, 1)], [], F10⟩
theorem k10 : CtrOk Try.prog 10 K10 := addFun (H := hn) (n := 60) orders td10 h10 wts_ok l10_1 rfl rfl (fun x => by kernel_rfl)
def tb100 : List (Nat × CF) := [(100, c100)]
theorem td100 : Tied Try.prog tb100 := ⟨⟨_, _, Try.func100, t100⟩, trivial⟩
noncomputable def ct100 : List (Nat × Ctr) := []
theorem h100 : CtsOk Try.prog ct100 := trivial
theorem l100_0 : LpsOk (cfgT Try.prog (look? tb100) (look? ct100) (look? wts) (([] : List (Nat × Bool)).map (·.1))) (allL tb100) [] := trivial
theorem l100_1 : LpsOk (cfgT Try.prog (look? tb100) (look? ct100) (look? wts) (([] : List (Nat × Bool)).map (·.1))) (allL tb100) [(1006400, ⟨L100_1006400p, L100_1006400o, L100_1006400⟩)] := addLoop (H := hn) (n := 60) (live := [0, 1, 7, 29, 30, 31, 1006400]) (b := c100L0) (ps := L100_1006400p) (os := L100_1006400o) (st := L100_1006400t) h100 wts_ok l100_0 (by kernel_rfl) (by kernel_rfl) (fun x => by kernel_rfl)
noncomputable def K100 : Ctr := ⟨.cons (.i .i64) (.cons (.i .i64) (.cons (sNode) (.nil))), .cons (.b) (.nil), [(false, 1), (false, 1), (true, 3)], [(false, 1)], [], F100⟩
theorem k100 : CtrOk Try.prog 100 K100 := addFun (H := hn) (n := 60) orders td100 h100 wts_ok l100_1 rfl rfl (fun x => by kernel_rfl)
def tb101 : List (Nat × CF) := [(101, c101)]
theorem td101 : Tied Try.prog tb101 := ⟨⟨_, _, Try.func101, t101⟩, trivial⟩
noncomputable def ct101 : List (Nat × Ctr) := []
theorem h101 : CtsOk Try.prog ct101 := trivial
theorem l101_0 : LpsOk (cfgT Try.prog (look? tb101) (look? ct101) (look? wts) (([] : List (Nat × Bool)).map (·.1))) (allL tb101) [] := trivial
noncomputable def K101 : Ctr := ⟨.cons (sNode) (.nil), .cons (.b) (.nil), [(true, 3)], [(false, 1)], [], F101⟩
theorem k101 : CtrOk Try.prog 101 K101 := addFun (H := hn) (n := 60) orders td101 h101 wts_ok l101_0 rfl rfl (fun x => by kernel_rfl)
def tb125 : List (Nat × CF) := [(125, c125)]
theorem td125 : Tied Try.prog tb125 := ⟨⟨_, _, Try.func125, t125⟩, trivial⟩
noncomputable def ct125 : List (Nat × Ctr) := []
theorem h125 : CtsOk Try.prog ct125 := trivial
theorem l125_0 : LpsOk (cfgT Try.prog (look? tb125) (look? ct125) (look? wts) (([] : List (Nat × Bool)).map (·.1))) (allL tb125) [] := trivial
noncomputable def K125 : Ctr := ⟨.cons (.i .i64) (.nil), .cons (.b) (.nil), [(false, 1)], [(false, 1)], [], F125⟩
theorem k125 : CtrOk Try.prog 125 K125 := addFun (H := hn) (n := 60) orders td125 h125 wts_ok l125_0 rfl rfl (fun x => by kernel_rfl)
def tb126 : List (Nat × CF) := [(126, c126)]
theorem td126 : Tied Try.prog tb126 := ⟨⟨_, _, Try.func126, t126⟩, trivial⟩
noncomputable def ct126 : List (Nat × Ctr) := []
theorem h126 : CtsOk Try.prog ct126 := trivial
theorem l126_0 : LpsOk (cfgT Try.prog (look? tb126) (look? ct126) (look? wts) (([] : List (Nat × Bool)).map (·.1))) (allL tb126) [] := trivial
noncomputable def K126 : Ctr := ⟨.cons (.i .i64) (.nil), .cons (.b) (.nil), [(false, 1)], [(false, 1)], [], F126⟩
theorem k126 : CtrOk Try.prog 126 K126 := addFun (H := hn) (n := 60) orders td126 h126 wts_ok l126_0 rfl rfl (fun x => by kernel_rfl)
def tb175 : List (Nat × CF) := [(175, c175)]
theorem td175 : Tied Try.prog tb175 := ⟨⟨_, _, Try.func175, t175⟩, trivial⟩
noncomputable def ct175 : List (Nat × Ctr) := []
theorem h175 : CtsOk Try.prog ct175 := trivial
theorem l175_0 : LpsOk (cfgT Try.prog (look? tb175) (look? ct175) (look? wts) (([] : List (Nat × Bool)).map (·.1))) (allL tb175) [] := trivial
theorem l175_1 : LpsOk (cfgT Try.prog (look? tb175) (look? ct175) (look? wts) (([] : List (Nat × Bool)).map (·.1))) (allL tb175) [(1011200, ⟨L175_1011200p, L175_1011200o, L175_1011200⟩)] := addLoop (H := hn) (n := 60) (live := [0, 1, 7, 8, 1011200]) (b := c175L0) (ps := L175_1011200p) (os := L175_1011200o) (st := L175_1011200t) h175 wts_ok l175_0 (by kernel_rfl) (by kernel_rfl) (fun x => by kernel_rfl)
noncomputable def K175 : Ctr := ⟨.cons (.row (.i .u8)) (.cons (.i .u8) (.nil)), .cons (.i .i64) (.nil), [(false, 1), (false, 1)], [(false, 1)], [], F175⟩
theorem k175 : CtrOk Try.prog 175 K175 := addFun (H := hn) (n := 60) orders td175 h175 wts_ok l175_1 rfl rfl (fun x => by kernel_rfl)
def tb33 : List (Nat × CF) := [(33, c33)]
theorem td33 : Tied Try.prog tb33 := ⟨⟨_, _, Try.func33, t33⟩, trivial⟩
noncomputable def ct33 : List (Nat × Ctr) := []
theorem h33 : CtsOk Try.prog ct33 := trivial
theorem l33_0 : LpsOk (cfgT Try.prog (look? tb33) (look? ct33) (look? wts) (([] : List (Nat × Bool)).map (·.1))) (allL tb33) [] := trivial
noncomputable def K33 : Ctr := ⟨.cons (sTask) (.cons (.i .i64) (.nil)), .cons (.b) (.nil), [(true, 5), (false, 1)], [(false, 1)], [], F33⟩
theorem k33 : CtrOk Try.prog 33 K33 := addFun (H := hn) (n := 60) orders td33 h33 wts_ok l33_0 rfl rfl (fun x => by kernel_rfl)
def tb99 : List (Nat × CF) := [(99, c99)]
theorem td99 : Tied Try.prog tb99 := ⟨⟨_, _, Try.func99, t99⟩, trivial⟩
noncomputable def ct99 : List (Nat × Ctr) := []
theorem h99 : CtsOk Try.prog ct99 := trivial
theorem l99_0 : LpsOk (cfgT Try.prog (look? tb99) (look? ct99) (look? wts) (([] : List (Nat × Bool)).map (·.1))) (allL tb99) [] := trivial
noncomputable def K99 : Ctr := ⟨.cons (.i .i64) (.nil), .cons (.b) (.nil), [(false, 1)], [(false, 1)], [], F99⟩
theorem k99 : CtrOk Try.prog 99 K99 := addFun (H := hn) (n := 60) orders td99 h99 wts_ok l99_0 rfl rfl (fun x => by kernel_rfl)
def tb98 : List (Nat × CF) := [(98, c98)]
theorem td98 : Tied Try.prog tb98 := ⟨⟨_, _, Try.func98, t98⟩, trivial⟩
noncomputable def ct98 : List (Nat × Ctr) := []
theorem h98 : CtsOk Try.prog ct98 := trivial
theorem l98_0 : LpsOk (cfgT Try.prog (look? tb98) (look? ct98) (look? wts) (([] : List (Nat × Bool)).map (·.1))) (allL tb98) [] := trivial
theorem l98_1 : LpsOk (cfgT Try.prog (look? tb98) (look? ct98) (look? wts) (([] : List (Nat × Bool)).map (·.1))) (allL tb98) [(1006272, ⟨L98_1006272p, L98_1006272o, L98_1006272⟩)] := addLoop (H := hn) (n := 60) (live := [3, 6, 7, 8, 1006272]) (b := c98L0) (ps := L98_1006272p) (os := L98_1006272o) (st := L98_1006272t) h98 wts_ok l98_0 (by kernel_rfl) (by kernel_rfl) (fun x => by kernel_rfl)
noncomputable def K98 : Ctr := ⟨.cons (.row (.i .i64)) (.nil), .cons (.i .i64) (.nil), [(false, 1)], [(false, 1)], [], F98⟩
theorem k98 : CtrOk Try.prog 98 K98 := addFun (H := hn) (n := 60) orders td98 h98 wts_ok l98_1 rfl rfl (fun x => by kernel_rfl)
def tb34 : List (Nat × CF) := [(34, c34)]
theorem td34 : Tied Try.prog tb34 := ⟨⟨_, _, Try.func34, t34⟩, trivial⟩
noncomputable def ct34 : List (Nat × Ctr) := []
theorem h34 : CtsOk Try.prog ct34 := trivial
theorem l34_0 : LpsOk (cfgT Try.prog (look? tb34) (look? ct34) (look? wts) (([] : List (Nat × Bool)).map (·.1))) (allL tb34) [] := trivial
noncomputable def K34 : Ctr := ⟨.cons (sPlace) (.cons (sPlace) (.nil)), .cons (.b) (.nil), [(true, 3), (true, 3)], [(false, 1)], [], F34⟩
theorem k34 : CtrOk Try.prog 34 K34 := addFun (H := hn) (n := 60) orders td34 h34 wts_ok l34_0 rfl rfl (fun x => by kernel_rfl)
def tb65 : List (Nat × CF) := [(65, c65)]
theorem td65 : Tied Try.prog tb65 := ⟨⟨_, _, Try.func65, t65⟩, trivial⟩
noncomputable def ct65 : List (Nat × Ctr) := [(10, K10)]
theorem h65 : CtsOk Try.prog ct65 := ⟨k10, trivial⟩
theorem l65_0 : LpsOk (cfgT Try.prog (look? tb65) (look? ct65) (look? wts) (([] : List (Nat × Bool)).map (·.1))) (allL tb65) [] := trivial
noncomputable def K65 : Ctr := ⟨.cons (sRun) (.nil), .cons (.b) (.nil), [(true, 5)], [(false, 1)], [], F65⟩
theorem k65 : CtrOk Try.prog 65 K65 := addFun (H := hn) (n := 60) orders td65 h65 wts_ok l65_0 rfl rfl (fun x => by kernel_rfl)
def tb70 : List (Nat × CF) := [(70, c70)]
theorem td70 : Tied Try.prog tb70 := ⟨⟨_, _, Try.func70, t70⟩, trivial⟩
noncomputable def ct70 : List (Nat × Ctr) := [(100, K100)]
theorem h70 : CtsOk Try.prog ct70 := ⟨k100, trivial⟩
theorem l70_0 : LpsOk (cfgT Try.prog (look? tb70) (look? ct70) (look? wts) (([] : List (Nat × Bool)).map (·.1))) (allL tb70) [] := trivial
theorem l70_1 : LpsOk (cfgT Try.prog (look? tb70) (look? ct70) (look? wts) (([] : List (Nat × Bool)).map (·.1))) (allL tb70) [(1004486, ⟨L70_1004486p, L70_1004486o, L70_1004486⟩)] := addLoop (H := hn) (n := 60) (live := [6, 97, 98, 1004486]) (b := c70L6) (ps := L70_1004486p) (os := L70_1004486o) (st := L70_1004486t) h70 wts_ok l70_0 (by kernel_rfl) (by kernel_rfl) (fun x => by kernel_rfl)
theorem l70_2 : LpsOk (cfgT Try.prog (look? tb70) (look? ct70) (look? wts) (([] : List (Nat × Bool)).map (·.1))) (allL tb70) [(1004485, ⟨L70_1004485p, L70_1004485o, L70_1004485⟩), (1004486, ⟨L70_1004486p, L70_1004486o, L70_1004486⟩)] := addLoop (H := hn) (n := 60) (live := [3, 6, 11, 12, 59, 60, 63, 64, 67, 68, 1004485]) (b := c70L3) (ps := L70_1004485p) (os := L70_1004485o) (st := L70_1004485t) h70 wts_ok l70_1 (by kernel_rfl) (by kernel_rfl) (fun x => by kernel_rfl)
theorem l70_3 : LpsOk (cfgT Try.prog (look? tb70) (look? ct70) (look? wts) (([] : List (Nat × Bool)).map (·.1))) (allL tb70) [(1004484, ⟨L70_1004484p, L70_1004484o, L70_1004484⟩), (1004485, ⟨L70_1004485p, L70_1004485o, L70_1004485⟩), (1004486, ⟨L70_1004486p, L70_1004486o, L70_1004486⟩)] := addLoop (H := hn) (n := 60) (live := [3, 6, 11, 59, 60, 63, 64, 1004484]) (b := c70L4) (ps := L70_1004484p) (os := L70_1004484o) (st := L70_1004484t) h70 wts_ok l70_2 (by kernel_rfl) (by kernel_rfl) (fun x => by kernel_rfl)
theorem l70_4 : LpsOk (cfgT Try.prog (look? tb70) (look? ct70) (look? wts) (([] : List (Nat × Bool)).map (·.1))) (allL tb70) [(1004483, ⟨L70_1004483p, L70_1004483o, L70_1004483⟩), (1004484, ⟨L70_1004484p, L70_1004484o, L70_1004484⟩), (1004485, ⟨L70_1004485p, L70_1004485o, L70_1004485⟩), (1004486, ⟨L70_1004486p, L70_1004486o, L70_1004486⟩)] := addLoop (H := hn) (n := 60) (live := [3, 6, 59, 60, 1004483]) (b := c70L5) (ps := L70_1004483p) (os := L70_1004483o) (st := L70_1004483t) h70 wts_ok l70_3 (by kernel_rfl) (by kernel_rfl) (fun x => by kernel_rfl)
theorem l70_5 : LpsOk (cfgT Try.prog (look? tb70) (look? ct70) (look? wts) (([] : List (Nat × Bool)).map (·.1))) (allL tb70) [(1004482, ⟨L70_1004482p, L70_1004482o, L70_1004482⟩), (1004483, ⟨L70_1004483p, L70_1004483o, L70_1004483⟩), (1004484, ⟨L70_1004484p, L70_1004484o, L70_1004484⟩), (1004485, ⟨L70_1004485p, L70_1004485o, L70_1004485⟩), (1004486, ⟨L70_1004486p, L70_1004486o, L70_1004486⟩)] := addLoop (H := hn) (n := 60) (live := [3, 6, 7, 39, 40, 41, 47, 48, 49, 1004482]) (b := c70L1) (ps := L70_1004482p) (os := L70_1004482o) (st := L70_1004482t) h70 wts_ok l70_4 (by kernel_rfl) (by kernel_rfl) (fun x => by kernel_rfl)
theorem l70_6 : LpsOk (cfgT Try.prog (look? tb70) (look? ct70) (look? wts) (([] : List (Nat × Bool)).map (·.1))) (allL tb70) [(1004481, ⟨L70_1004481p, L70_1004481o, L70_1004481⟩), (1004482, ⟨L70_1004482p, L70_1004482o, L70_1004482⟩), (1004483, ⟨L70_1004483p, L70_1004483o, L70_1004483⟩), (1004484, ⟨L70_1004484p, L70_1004484o, L70_1004484⟩), (1004485, ⟨L70_1004485p, L70_1004485o, L70_1004485⟩), (1004486, ⟨L70_1004486p, L70_1004486o, L70_1004486⟩)] := addLoop (H := hn) (n := 60) (live := [3, 6, 39, 40, 41, 1004481]) (b := c70L2) (ps := L70_1004481p) (os := L70_1004481o) (st := L70_1004481t) h70 wts_ok l70_5 (by kernel_rfl) (by kernel_rfl) (fun x => by kernel_rfl)
theorem l70_7 : LpsOk (cfgT Try.prog (look? tb70) (look? ct70) (look? wts) (([] : List (Nat × Bool)).map (·.1))) (allL tb70) [(1004480, ⟨L70_1004480p, L70_1004480o, L70_1004480⟩), (1004481, ⟨L70_1004481p, L70_1004481o, L70_1004481⟩), (1004482, ⟨L70_1004482p, L70_1004482o, L70_1004482⟩), (1004483, ⟨L70_1004483p, L70_1004483o, L70_1004483⟩), (1004484, ⟨L70_1004484p, L70_1004484o, L70_1004484⟩), (1004485, ⟨L70_1004485p, L70_1004485o, L70_1004485⟩), (1004486, ⟨L70_1004486p, L70_1004486o, L70_1004486⟩)] := addLoop (H := hn) (n := 60) (live := [1, 3, 25, 26, 27, 1004480]) (b := c70L0) (ps := L70_1004480p) (os := L70_1004480o) (st := L70_1004480t) h70 wts_ok l70_6 (by kernel_rfl) (by kernel_rfl) (fun x => by kernel_rfl)
noncomputable def K70 : Ctr := ⟨.cons (sSpec) (.nil), .cons (.i .i64) (.nil), [(true, 1)], [(false, 1)], [], F70⟩
theorem k70 : CtrOk Try.prog 70 K70 := addFun (H := hn) (n := 60) orders td70 h70 wts_ok l70_7 rfl rfl (fun x => by kernel_rfl)
def tb102 : List (Nat × CF) := [(102, c102)]
theorem td102 : Tied Try.prog tb102 := ⟨⟨_, _, Try.func102, t102⟩, trivial⟩
noncomputable def ct102 : List (Nat × Ctr) := [(125, K125), (126, K126)]
theorem h102 : CtsOk Try.prog ct102 := ⟨k125, k126, trivial⟩
theorem l102_0 : LpsOk (cfgT Try.prog (look? tb102) (look? ct102) (look? wts) (([] : List (Nat × Bool)).map (·.1))) (allL tb102) [] := trivial
noncomputable def K102 : Ctr := ⟨.cons (sNode) (.cons (sTask) (.nil)), .cons (.b) (.nil), [(true, 3), (true, 5)], [(false, 1)], [], F102⟩
theorem k102 : CtrOk Try.prog 102 K102 := addFun (H := hn) (n := 60) orders td102 h102 wts_ok l102_0 rfl rfl (fun x => by kernel_rfl)
def tb161 : List (Nat × CF) := [(161, c161)]
theorem td161 : Tied Try.prog tb161 := ⟨⟨_, _, Try.func161, t161⟩, trivial⟩
noncomputable def ct161 : List (Nat × Ctr) := [(175, K175)]
theorem h161 : CtsOk Try.prog ct161 := ⟨k175, trivial⟩
theorem l161_0 : LpsOk (cfgT Try.prog (look? tb161) (look? ct161) (look? wts) (([] : List (Nat × Bool)).map (·.1))) (allL tb161) [] := trivial
noncomputable def K161 : Ctr := ⟨.cons (.row (.i .u8)) (.cons (.i .u8) (.nil)), .cons (.b) (.nil), [(false, 1), (false, 1)], [(false, 1)], [], F161⟩
theorem k161 : CtrOk Try.prog 161 K161 := addFun (H := hn) (n := 60) orders td161 h161 wts_ok l161_0 rfl rfl (fun x => by kernel_rfl)
def tb69 : List (Nat × CF) := [(69, c69)]
theorem td69 : Tied Try.prog tb69 := ⟨⟨_, _, Try.func69, t69⟩, trivial⟩
noncomputable def ct69 : List (Nat × Ctr) := [(99, K99)]
theorem h69 : CtsOk Try.prog ct69 := ⟨k99, trivial⟩
theorem l69_0 : LpsOk (cfgT Try.prog (look? tb69) (look? ct69) (look? wts) (([] : List (Nat × Bool)).map (·.1))) (allL tb69) [] := trivial
noncomputable def K69 : Ctr := ⟨.cons (.i .i64) (.cons (.i .i64) (.nil)), .cons (.i .i64) (.nil), [(false, 1), (false, 1)], [(false, 1)], [], F69⟩
theorem k69 : CtrOk Try.prog 69 K69 := addFun (H := hn) (n := 60) orders td69 h69 wts_ok l69_0 rfl rfl (fun x => by kernel_rfl)
def tb29 : List (Nat × CF) := [(29, c29)]
theorem td29 : Tied Try.prog tb29 := ⟨⟨_, _, Try.func29, t29⟩, trivial⟩
noncomputable def ct29 : List (Nat × Ctr) := [(65, K65)]
theorem h29 : CtsOk Try.prog ct29 := ⟨k65, trivial⟩
theorem l29_0 : LpsOk (cfgT Try.prog (look? tb29) (look? ct29) (look? wts) (([] : List (Nat × Bool)).map (·.1))) (allL tb29) [] := trivial
theorem l29_1 : LpsOk (cfgT Try.prog (look? tb29) (look? ct29) (look? wts) (([] : List (Nat × Bool)).map (·.1))) (allL tb29) [(1001856, ⟨L29_1001856p, L29_1001856o, L29_1001856⟩)] := addLoop (H := hn) (n := 60) (live := [0, 3, 1001856]) (b := c29L0) (ps := L29_1001856p) (os := L29_1001856o) (st := L29_1001856t) h29 wts_ok l29_0 (by kernel_rfl) (by kernel_rfl) (fun x => by kernel_rfl)
noncomputable def K29 : Ctr := ⟨.cons (.row (sRun)) (.nil), .cons (.b) (.nil), [(false, 1)], [(false, 1)], [], F29⟩
theorem k29 : CtrOk Try.prog 29 K29 := addFun (H := hn) (n := 60) orders td29 h29 wts_ok l29_1 rfl rfl (fun x => by kernel_rfl)
def tb71 : List (Nat × CF) := [(71, c71)]
theorem td71 : Tied Try.prog tb71 := ⟨⟨_, _, Try.func71, t71⟩, trivial⟩
noncomputable def ct71 : List (Nat × Ctr) := [(101, K101), (102, K102)]
theorem h71 : CtsOk Try.prog ct71 := ⟨k101, k102, trivial⟩
theorem l71_0 : LpsOk (cfgT Try.prog (look? tb71) (look? ct71) (look? wts) (([] : List (Nat × Bool)).map (·.1))) (allL tb71) [] := trivial
noncomputable def K71 : Ctr := ⟨.cons (sNode) (.cons (sTask) (.nil)), .cons (.i .i64) (.nil), [(true, 3), (true, 5)], [(false, 1)], [], F71⟩
theorem k71 : CtrOk Try.prog 71 K71 := addFun (H := hn) (n := 60) orders td71 h71 wts_ok l71_0 rfl rfl (fun x => by kernel_rfl)
def tb103 : List (Nat × CF) := [(103, c103), (128, c128), (127, c127), (159, c159)]
theorem td103 : Tied Try.prog tb103 := ⟨⟨_, _, Try.func103, t103⟩, ⟨_, _, Try.func128, t128⟩, ⟨_, _, Try.func127, t127⟩, ⟨_, _, Try.func159, t159⟩, trivial⟩
noncomputable def ct103 : List (Nat × Ctr) := []
theorem h103 : CtsOk Try.prog ct103 := trivial
theorem l103_0 : LpsOk (cfgT Try.prog (look? tb103) (look? ct103) (look? wts) (([] : List (Nat × Bool)).map (·.1))) (allL tb103) [] := trivial
theorem l103_1 : LpsOk (cfgT Try.prog (look? tb103) (look? ct103) (look? wts) (([] : List (Nat × Bool)).map (·.1))) (allL tb103) [(1010176, ⟨L103_1010176p, L103_1010176o, L103_1010176⟩)] := addLoop (H := hn) (n := 60) (live := [0, 1, 7, 8, 1010176]) (b := c159L0) (ps := L103_1010176p) (os := L103_1010176o) (st := L103_1010176t) h103 wts_ok l103_0 (by kernel_rfl) (by kernel_rfl) (fun x => by kernel_rfl)
noncomputable def K103 : Ctr := ⟨.cons (sRun) (.cons (sNode) (.nil)), .cons (.b) (.nil), [(true, 5), (true, 3)], [(false, 1)], [], F103⟩
theorem k103 : CtrOk Try.prog 103 K103 := addFun (H := hn) (n := 60) orders td103 h103 wts_ok l103_1 rfl rfl (fun x => by kernel_rfl)
def tb131 : List (Nat × CF) := [(131, c131)]
theorem td131 : Tied Try.prog tb131 := ⟨⟨_, _, Try.func131, t131⟩, trivial⟩
noncomputable def ct131 : List (Nat × Ctr) := [(161, K161)]
theorem h131 : CtsOk Try.prog ct131 := ⟨k161, trivial⟩
theorem l131_0 : LpsOk (cfgT Try.prog (look? tb131) (look? ct131) (look? wts) (([] : List (Nat × Bool)).map (·.1))) (allL tb131) [] := trivial
noncomputable def K131 : Ctr := ⟨.cons (sTask) (.cons (.row (.i .u8)) (.nil)), .cons (.b) (.nil), [(true, 5), (false, 1)], [(false, 1)], [], F131⟩
theorem k131 : CtrOk Try.prog 131 K131 := addFun (H := hn) (n := 60) orders td131 h131 wts_ok l131_0 rfl rfl (fun x => by kernel_rfl)
def tb97 : List (Nat × CF) := [(97, c97)]
theorem td97 : Tied Try.prog tb97 := ⟨⟨_, _, Try.func97, t97⟩, trivial⟩
noncomputable def ct97 : List (Nat × Ctr) := [(69, K69), (98, K98)]
theorem h97 : CtsOk Try.prog ct97 := ⟨k69, k98, trivial⟩
theorem l97_0 : LpsOk (cfgT Try.prog (look? tb97) (look? ct97) (look? wts) (([] : List (Nat × Bool)).map (·.1))) (allL tb97) [] := trivial
noncomputable def K97 : Ctr := ⟨.cons (sPlace) (.cons (sPlace) (.nil)), .cons (.i .i64) (.nil), [(true, 3), (true, 3)], [(false, 1)], [], F97⟩
theorem k97 : CtrOk Try.prog 97 K97 := addFun (H := hn) (n := 60) orders td97 h97 wts_ok l97_0 rfl rfl (fun x => by kernel_rfl)
def tb105 : List (Nat × CF) := [(105, c105), (132, c132), (129, c129), (160, c160)]
theorem td105 : Tied Try.prog tb105 := ⟨⟨_, _, Try.func105, t105⟩, ⟨_, _, Try.func132, t132⟩, ⟨_, _, Try.func129, t129⟩, ⟨_, _, Try.func160, t160⟩, trivial⟩
noncomputable def ct105 : List (Nat × Ctr) := [(131, K131)]
theorem h105 : CtsOk Try.prog ct105 := ⟨k131, trivial⟩
theorem l105_0 : LpsOk (cfgT Try.prog (look? tb105) (look? ct105) (look? wts) (([] : List (Nat × Bool)).map (·.1))) (allL tb105) [] := trivial
theorem l105_1 : LpsOk (cfgT Try.prog (look? tb105) (look? ct105) (look? wts) (([] : List (Nat × Bool)).map (·.1))) (allL tb105) [(1010240, ⟨L105_1010240p, L105_1010240o, L105_1010240⟩)] := addLoop (H := hn) (n := 60) (live := [0, 1, 7, 8, 1010240]) (b := c160L0) (ps := L105_1010240p) (os := L105_1010240o) (st := L105_1010240t) h105 wts_ok l105_0 (by kernel_rfl) (by kernel_rfl) (fun x => by kernel_rfl)
noncomputable def K105 : Ctr := ⟨.cons (sRun) (.cons (.row (.i .u8)) (.nil)), .cons (.b) (.nil), [(true, 5), (false, 1)], [(false, 1)], [], F105⟩
theorem k105 : CtrOk Try.prog 105 K105 := addFun (H := hn) (n := 60) orders td105 h105 wts_ok l105_1 rfl rfl (fun x => by kernel_rfl)
def tb66 : List (Nat × CF) := [(66, c66)]
theorem td66 : Tied Try.prog tb66 := ⟨⟨_, _, Try.func66, t66⟩, trivial⟩
noncomputable def ct66 : List (Nat × Ctr) := [(33, K33), (97, K97)]
theorem h66 : CtsOk Try.prog ct66 := ⟨k33, k97, trivial⟩
theorem l66_0 : LpsOk (cfgT Try.prog (look? tb66) (look? ct66) (look? wts) (([] : List (Nat × Bool)).map (·.1))) (allL tb66) [] := trivial
theorem l66_1 : LpsOk (cfgT Try.prog (look? tb66) (look? ct66) (look? wts) (([] : List (Nat × Bool)).map (·.1))) (allL tb66) [(1004225, ⟨L66_1004225p, L66_1004225o, L66_1004225⟩)] := addLoop (H := hn) (n := 60) (live := [1, 5, 7, 10, 11, 12, 17, 18, 19, 1004225]) (b := c66L0) (ps := L66_1004225p) (os := L66_1004225o) (st := L66_1004225t) h66 wts_ok l66_0 (by kernel_rfl) (by kernel_rfl) (fun x => match x with | .inl x => (by kernel_rfl) | .inr (x) => (by kernel_rfl))
theorem l66_2 : LpsOk (cfgT Try.prog (look? tb66) (look? ct66) (look? wts) (([] : List (Nat × Bool)).map (·.1))) (allL tb66) [(1004224, ⟨L66_1004224p, L66_1004224o, L66_1004224⟩), (1004225, ⟨L66_1004225p, L66_1004225o, L66_1004225⟩)] := addLoop (H := hn) (n := 60) (live := [1, 5, 10, 11, 12, 1004224]) (b := c66L1) (ps := L66_1004224p) (os := L66_1004224o) (st := L66_1004224t) h66 wts_ok l66_1 (by kernel_rfl) (by kernel_rfl) (fun x => match x with | .inl x => (by kernel_rfl) | .inr (x) => (by kernel_rfl))
noncomputable def K66 : Ctr := ⟨.cons (.row (sRun)) (.cons (.i .i64) (.nil)), .cons (.row (sPlace)) (.nil), [(false, 1), (false, 1)], [(false, 1)], [], F66⟩
theorem k66 : CtrOk Try.prog 66 K66 := addFun (H := hn) (n := 60) orders td66 h66 wts_ok l66_2 rfl rfl (fun x => by kernel_rfl)
def tb104 : List (Nat × CF) := [(104, c104), (130, c130), (129, c129), (160, c160)]
theorem td104 : Tied Try.prog tb104 := ⟨⟨_, _, Try.func104, t104⟩, ⟨_, _, Try.func130, t130⟩, ⟨_, _, Try.func129, t129⟩, ⟨_, _, Try.func160, t160⟩, trivial⟩
noncomputable def ct104 : List (Nat × Ctr) := [(131, K131)]
theorem h104 : CtsOk Try.prog ct104 := ⟨k131, trivial⟩
theorem l104_0 : LpsOk (cfgT Try.prog (look? tb104) (look? ct104) (look? wts) (([] : List (Nat × Bool)).map (·.1))) (allL tb104) [] := trivial
theorem l104_1 : LpsOk (cfgT Try.prog (look? tb104) (look? ct104) (look? wts) (([] : List (Nat × Bool)).map (·.1))) (allL tb104) [(1010240, ⟨L104_1010240p, L104_1010240o, L104_1010240⟩)] := addLoop (H := hn) (n := 60) (live := [0, 1, 7, 8, 1010240]) (b := c160L0) (ps := L104_1010240p) (os := L104_1010240o) (st := L104_1010240t) h104 wts_ok l104_0 (by kernel_rfl) (by kernel_rfl) (fun x => by kernel_rfl)
noncomputable def K104 : Ctr := ⟨.cons (sRun) (.cons (.row (.i .u8)) (.nil)), .cons (.b) (.nil), [(true, 5), (false, 1)], [(false, 1)], [], F104⟩
theorem k104 : CtrOk Try.prog 104 K104 := addFun (H := hn) (n := 60) orders td104 h104 wts_ok l104_1 rfl rfl (fun x => by kernel_rfl)
def tb72 : List (Nat × CF) := [(72, c72)]
theorem td72 : Tied Try.prog tb72 := ⟨⟨_, _, Try.func72, t72⟩, trivial⟩
noncomputable def ct72 : List (Nat × Ctr) := [(103, K103), (104, K104), (105, K105)]
theorem h72 : CtsOk Try.prog ct72 := ⟨k103, k104, k105, trivial⟩
theorem l72_0 : LpsOk (cfgT Try.prog (look? tb72) (look? ct72) (look? wts) (([] : List (Nat × Bool)).map (·.1))) (allL tb72) [] := trivial
theorem l72_1 : LpsOk (cfgT Try.prog (look? tb72) (look? ct72) (look? wts) (([] : List (Nat × Bool)).map (·.1))) (allL tb72) [(1004608, ⟨L72_1004608p, L72_1004608o, L72_1004608⟩)] := addLoop (H := hn) (n := 60) (live := [1, 11, 12, 13, 1004608]) (b := c72L0) (ps := L72_1004608p) (os := L72_1004608o) (st := L72_1004608t) h72 wts_ok l72_0 (by kernel_rfl) (by kernel_rfl) (fun x => by kernel_rfl)
noncomputable def K72 : Ctr := ⟨.cons (sRun) (.nil), .cons (.b) (.nil), [(true, 5)], [(false, 1)], [], F72⟩
theorem k72 : CtrOk Try.prog 72 K72 := addFun (H := hn) (n := 60) orders td72 h72 wts_ok l72_1 rfl rfl (fun x => by kernel_rfl)
def tb36 : List (Nat × CF) := [(36, c36)]
theorem td36 : Tied Try.prog tb36 := ⟨⟨_, _, Try.func36, t36⟩, trivial⟩
noncomputable def ct36 : List (Nat × Ctr) := [(70, K70), (71, K71), (72, K72)]
theorem h36 : CtsOk Try.prog ct36 := ⟨k70, k71, k72, trivial⟩
theorem l36_0 : LpsOk (cfgT Try.prog (look? tb36) (look? ct36) (look? wts) (([] : List (Nat × Bool)).map (·.1))) (allL tb36) [] := trivial
theorem l36_1 : LpsOk (cfgT Try.prog (look? tb36) (look? ct36) (look? wts) (([] : List (Nat × Bool)).map (·.1))) (allL tb36) [(1002304, ⟨L36_1002304p, L36_1002304o, L36_1002304⟩)] := addLoop (H := hn) (n := 60) (live := [1, 43, 44, 45, 1002304]) (b := c36L0) (ps := L36_1002304p) (os := L36_1002304o) (st := L36_1002304t) h36 wts_ok l36_0 (by kernel_rfl) (by kernel_rfl) (fun x => by kernel_rfl)
noncomputable def K36 : Ctr := ⟨.cons (sRun) (.nil), .cons (.i .i64) (.nil), [(true, 5)], [(false, 1)], [], F36⟩
theorem k36 : CtrOk Try.prog 36 K36 := addFun (H := hn) (n := 60) orders td36 h36 wts_ok l36_1 rfl rfl (fun x => by kernel_rfl)
def tb40 : List (Nat × CF) := [(40, c40), (75, c75), (74, c74), (106, c106), (76, c76)]
theorem td40 : Tied Try.prog tb40 := ⟨⟨_, _, Try.func40, t40⟩, ⟨_, _, Try.func75, t75⟩, ⟨_, _, Try.func74, t74⟩, ⟨_, _, Try.func106, t106⟩, ⟨_, _, Try.func76, t76⟩, trivial⟩
noncomputable def ct40 : List (Nat × Ctr) := [(36, K36)]
theorem h40 : CtsOk Try.prog ct40 := ⟨k36, trivial⟩
theorem l40_0 : LpsOk (cfgT Try.prog (look? tb40) (look? ct40) (look? wts) (([] : List (Nat × Bool)).map (·.1))) (allL tb40) [] := trivial
theorem l40_1 : LpsOk (cfgT Try.prog (look? tb40) (look? ct40) (look? wts) (([] : List (Nat × Bool)).map (·.1))) (allL tb40) [(1002561, ⟨L40_1002561p, L40_1002561o, L40_1002561⟩)] := addLoop (H := hn) (n := 60) (live := [0, 3, 4, 14, 15, 16, 47, 48, 49, 1002561]) (b := c40L0) (ps := L40_1002561p) (os := L40_1002561o) (st := L40_1002561t) h40 wts_ok l40_0 (by kernel_rfl) (by kernel_rfl) (fun x => by kernel_rfl)
theorem l40_2 : LpsOk (cfgT Try.prog (look? tb40) (look? ct40) (look? wts) (([] : List (Nat × Bool)).map (·.1))) (allL tb40) [(1006784, ⟨L40_1006784p, L40_1006784o, L40_1006784⟩), (1002561, ⟨L40_1002561p, L40_1002561o, L40_1002561⟩)] := addLoop (H := hn) (n := 60) (live := [0, 1, 7, 8, 1006784]) (b := c106L0) (ps := L40_1006784p) (os := L40_1006784o) (st := L40_1006784t) h40 wts_ok l40_1 (by kernel_rfl) (by kernel_rfl) (fun x => by kernel_rfl)
theorem l40_3 : LpsOk (cfgT Try.prog (look? tb40) (look? ct40) (look? wts) (([] : List (Nat × Bool)).map (·.1))) (allL tb40) [(1002560, ⟨L40_1002560p, L40_1002560o, L40_1002560⟩), (1006784, ⟨L40_1006784p, L40_1006784o, L40_1006784⟩), (1002561, ⟨L40_1002561p, L40_1002561o, L40_1002561⟩)] := addLoop (H := hn) (n := 60) (live := [0, 3, 4, 14, 15, 16, 1002560]) (b := c40L1) (ps := L40_1002560p) (os := L40_1002560o) (st := L40_1002560t) h40 wts_ok l40_2 (by kernel_rfl) (by kernel_rfl) (fun x => by kernel_rfl)
noncomputable def K40 : Ctr := ⟨.cons (.row (sRun)) (.nil), .cons (.i .i64) (.nil), [(false, 1)], [(false, 1)], [], F40⟩
theorem k40 : CtrOk Try.prog 40 K40 := addFun (H := hn) (n := 60) orders td40 h40 wts_ok l40_3 rfl rfl (fun x => by kernel_rfl)
def tb31 : List (Nat × CF) := [(31, c31)]
theorem td31 : Tied Try.prog tb31 := ⟨⟨_, _, Try.func31, t31⟩, trivial⟩
noncomputable def ct31 : List (Nat × Ctr) := [(40, K40), (66, K66)]
theorem h31 : CtsOk Try.prog ct31 := ⟨k40, k66, trivial⟩
theorem l31_0 : LpsOk (cfgT Try.prog (look? tb31) (look? ct31) (look? wts) (([] : List (Nat × Bool)).map (·.1))) (allL tb31) [] := trivial
noncomputable def K31 : Ctr := ⟨.cons (.row (sRun)) (.nil), .cons (.i .i64) (.cons (.b) (.cons (.i .i64) (.nil))), [(false, 1)], [(false, 1), (false, 1), (false, 1)], [], F31⟩
theorem k31 : CtrOk Try.prog 31 K31 := addFun (H := hn) (n := 60) orders td31 h31 wts_ok l31_0 rfl rfl (fun x => by kernel_rfl)
def tb32 : List (Nat × CF) := [(32, c32), (67, c67), (68, c68)]
theorem td32 : Tied Try.prog tb32 := ⟨⟨_, _, Try.func32, t32⟩, ⟨_, _, Try.func67, t67⟩, ⟨_, _, Try.func68, t68⟩, trivial⟩
noncomputable def ct32 : List (Nat × Ctr) := [(40, K40), (69, K69)]
theorem h32 : CtsOk Try.prog ct32 := ⟨k40, k69, trivial⟩
theorem l32_0 : LpsOk (cfgT Try.prog (look? tb32) (look? ct32) (look? wts) (([] : List (Nat × Bool)).map (·.1))) (allL tb32) [] := trivial
theorem l32_1 : LpsOk (cfgT Try.prog (look? tb32) (look? ct32) (look? wts) (([] : List (Nat × Bool)).map (·.1))) (allL tb32) [(1004288, ⟨L32_1004288p, L32_1004288o, L32_1004288⟩)] := addLoop (H := hn) (n := 60) (live := [0, 1, 2, 8, 9, 10, 1004288]) (b := c67L0) (ps := L32_1004288p) (os := L32_1004288o) (st := L32_1004288t) h32 wts_ok l32_0 (by kernel_rfl) (by kernel_rfl) (fun x => by kernel_rfl)
noncomputable def K32 : Ctr := ⟨.cons (.row (sRun)) (.cons (.i .i64) (.nil)), .cons (.i .i64) (.cons (.b) (.cons (.i .i64) (.nil))), [(false, 1), (false, 1)], [(false, 1), (false, 1), (false, 1)], [], F32⟩
theorem k32 : CtrOk Try.prog 32 K32 := addFun (H := hn) (n := 60) orders td32 h32 wts_ok l32_1 rfl rfl (fun x => by kernel_rfl)
def tb30 : List (Nat × CF) := [(30, c30)]
theorem td30 : Tied Try.prog tb30 := ⟨⟨_, _, Try.func30, t30⟩, trivial⟩
noncomputable def ct30 : List (Nat × Ctr) := [(40, K40), (66, K66)]
theorem h30 : CtsOk Try.prog ct30 := ⟨k40, k66, trivial⟩
theorem l30_0 : LpsOk (cfgT Try.prog (look? tb30) (look? ct30) (look? wts) (([] : List (Nat × Bool)).map (·.1))) (allL tb30) [] := trivial
noncomputable def K30 : Ctr := ⟨.cons (.row (sRun)) (.cons (.i .i64) (.nil)), .cons (.row (sPlace)) (.cons (.i .i64) (.nil)), [(false, 1), (false, 1)], [(false, 1), (false, 1)], [], F30⟩
theorem k30 : CtrOk Try.prog 30 K30 := addFun (H := hn) (n := 60) orders td30 h30 wts_ok l30_0 rfl rfl (fun x => by kernel_rfl)
def tb6 : List (Nat × CF) := [(6, c6)]
theorem td6 : Tied Try.prog tb6 := ⟨⟨_, _, Try.func6, t6⟩, trivial⟩
noncomputable def ct6 : List (Nat × Ctr) := [(28, K28), (29, K29), (30, K30), (31, K31), (32, K32), (33, K33), (34, K34)]
theorem h6 : CtsOk Try.prog ct6 := ⟨k28, k29, k30, k31, k32, k33, k34, trivial⟩
theorem l6_0 : LpsOk (cfgT Try.prog (look? tb6) (look? ct6) (look? wts) (([] : List (Nat × Bool)).map (·.1))) (allL tb6) [] := trivial
theorem l6_1 : LpsOk (cfgT Try.prog (look? tb6) (look? ct6) (look? wts) (([] : List (Nat × Bool)).map (·.1))) (allL tb6) [(1000386, ⟨L6_1000386p, L6_1000386o, L6_1000386⟩)] := addLoop (H := hn) (n := 60) (live := [0, 1, 6, 8, 9, 15, 16, 17, 1000386]) (b := c6L1) (ps := L6_1000386p) (os := L6_1000386o) (st := L6_1000386t) h6 wts_ok l6_0 (by kernel_rfl) (by kernel_rfl) (fun x => by kernel_rfl)
theorem l6_2 : LpsOk (cfgT Try.prog (look? tb6) (look? ct6) (look? wts) (([] : List (Nat × Bool)).map (·.1))) (allL tb6) [(1000385, ⟨L6_1000385p, L6_1000385o, L6_1000385⟩), (1000386, ⟨L6_1000386p, L6_1000386o, L6_1000386⟩)] := addLoop (H := hn) (n := 60) (live := [0, 1, 6, 8, 9, 15, 16, 1000385]) (b := c6L2) (ps := L6_1000385p) (os := L6_1000385o) (st := L6_1000385t) h6 wts_ok l6_1 (by kernel_rfl) (by kernel_rfl) (fun x => by kernel_rfl)
theorem l6_3 : LpsOk (cfgT Try.prog (look? tb6) (look? ct6) (look? wts) (([] : List (Nat × Bool)).map (·.1))) (allL tb6) [(1000384, ⟨L6_1000384p, L6_1000384o, L6_1000384⟩), (1000385, ⟨L6_1000385p, L6_1000385o, L6_1000385⟩), (1000386, ⟨L6_1000386p, L6_1000386o, L6_1000386⟩)] := addLoop (H := hn) (n := 60) (live := [0, 1, 6, 8, 9, 11, 1000384]) (b := c6L0) (ps := L6_1000384p) (os := L6_1000384o) (st := L6_1000384t) h6 wts_ok l6_2 (by kernel_rfl) (by kernel_rfl) (fun x => by kernel_rfl)
noncomputable def K6 : Ctr := ⟨.cons (.row (sRun)) (.cons (.i .i64) (.nil)), .cons (.b) (.nil), [(false, 1), (false, 1)], [(false, 1)], [], F6⟩
theorem k6 : CtrOk Try.prog 6 K6 := addFun (H := hn) (n := 60) orders td6 h6 wts_ok l6_3 rfl rfl (fun x => by kernel_rfl)
end Go.Proofs.Ytefehcmhdiifnaa.leaseOrder.Code
