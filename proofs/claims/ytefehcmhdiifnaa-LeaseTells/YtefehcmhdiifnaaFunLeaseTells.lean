/- Their code computes it. -/
import Derived.Test.YtefehcmhdiifnaaTieLeaseTells
import Derived.Test.YtefehcmhdiifnaaDefLeaseTells1
import Derived.KernelRfl
import Derived.Test.YtefehcmhdiifnaaSrtLeaseTells
set_option maxRecDepth 100000
set_option linter.unusedVariables false
set_option linter.constructorNameAsVariable false
namespace Go.Proofs.Ytefehcmhdiifnaa.leaseTells.Code
open Go Go.Am

def tb10 : List (Nat × CF) := [(10, c10)]
theorem td10 : Tied Try.prog tb10 := ⟨⟨_, _, Try.func10, t10⟩, trivial⟩
noncomputable def ct10 : List (Nat × Ctr) := []
theorem h10 : CtsOk Try.prog ct10 := trivial
theorem l10_0 : LpsOk (cfgT Try.prog (look? tb10) (look? ct10) (look? wts) (([] : List (Nat × Bool)).map (·.1))) (allL tb10) [] := trivial
theorem l10_1 : LpsOk (cfgT Try.prog (look? tb10) (look? ct10) (look? wts) (([] : List (Nat × Bool)).map (·.1))) (allL tb10) [(1000640, ⟨L10_1000640p, L10_1000640o, L10_1000640⟩)] := addLoop (H := hn) (n := 60) (live := [1, 3, 1000640]) (b := c10L0) (ps := L10_1000640p) (os := L10_1000640o) (st := L10_1000640t) h10 wts_ok l10_0 (by kernel_rfl) (by kernel_rfl) (fun x => by kernel_rfl)
noncomputable def K10 : Ctr := ⟨.cons (sSpec) (.nil), .cons (.b) (.nil), [(true, 1)], [(false, 1)], [], F10⟩
theorem k10 : CtrOk Try.prog 10 K10 := addFun (H := hn) (n := 60) orders td10 h10 wts_ok l10_1 rfl rfl (fun x => by kernel_rfl)
def tb107 : List (Nat × CF) := [(107, c107)]
theorem td107 : Tied Try.prog tb107 := ⟨⟨_, _, Try.func107, t107⟩, trivial⟩
noncomputable def ct107 : List (Nat × Ctr) := []
theorem h107 : CtsOk Try.prog ct107 := trivial
theorem l107_0 : LpsOk (cfgT Try.prog (look? tb107) (look? ct107) (look? wts) (([] : List (Nat × Bool)).map (·.1))) (allL tb107) [] := trivial
theorem l107_1 : LpsOk (cfgT Try.prog (look? tb107) (look? ct107) (look? wts) (([] : List (Nat × Bool)).map (·.1))) (allL tb107) [(1006848, ⟨L107_1006848p, L107_1006848o, L107_1006848⟩)] := addLoop (H := hn) (n := 60) (live := [1, 2, 3, 4, 1006848]) (b := c107L0) (ps := L107_1006848p) (os := L107_1006848o) (st := L107_1006848t) h107 wts_ok l107_0 (by kernel_rfl) (by kernel_rfl) (fun x => match x with | .inl x => (by kernel_rfl) | .inr (x) => (by kernel_rfl))
noncomputable def K107 : Ctr := ⟨.cons (sSpec) (.nil), .cons (sSpec) (.nil), [(true, 1)], [(true, 1)], [], F107⟩
theorem k107 : CtrOk Try.prog 107 K107 := addFun (H := hn) (n := 60) orders td107 h107 wts_ok l107_1 rfl rfl (fun x => by kernel_rfl)
def tb100 : List (Nat × CF) := [(100, c100)]
theorem td100 : Tied Try.prog tb100 := ⟨⟨_, _, Try.func100, t100⟩, trivial⟩
noncomputable def ct100 : List (Nat × Ctr) := []
theorem h100 : CtsOk Try.prog ct100 := trivial
theorem l100_0 : LpsOk (cfgT Try.prog (look? tb100) (look? ct100) (look? wts) (([] : List (Nat × Bool)).map (·.1))) (allL tb100) [] := trivial
theorem l100_1 : LpsOk (cfgT Try.prog (look? tb100) (look? ct100) (look? wts) (([] : List (Nat × Bool)).map (·.1))) (allL tb100) [(1006400, ⟨L100_1006400p, L100_1006400o, L100_1006400⟩)] := addLoop (H := hn) (n := 60) (live := [0, 1, 7, 29, 30, 31, 1006400]) (b := c100L0) (ps := L100_1006400p) (os := L100_1006400o) (st := L100_1006400t) h100 wts_ok l100_0 (by kernel_rfl) (by kernel_rfl) (fun x => by kernel_rfl)
noncomputable def K100 : Ctr := ⟨.cons (.i .i64) (.cons (.i .i64) (.cons (sNode) (.nil))), .cons (.b) (.nil), [(false, 1), (false, 1), (true, 3)], [(false, 1)], [], F100⟩
theorem k100 : CtrOk Try.prog 100 K100 := addFun (H := hn) (n := 60) orders td100 h100 wts_ok l100_1 rfl rfl (fun x => by kernel_rfl)
def tb101 : List (Nat × CF) := [(101, c101)]
theorem td101 : Tied Try.prog tb101 := ⟨⟨_, _, Try.func101, t101⟩, trivial⟩
noncomputable def ct101 : List (Nat × Ctr) := []
theorem h101 : CtsOk Try.prog ct101 := trivial
theorem l101_0 : LpsOk (cfgT Try.prog (look? tb101) (look? ct101) (look? wts) (([] : List (Nat × Bool)).map (·.1))) (allL tb101) [] := trivial
noncomputable def K101 : Ctr := ⟨.cons (sNode) (.nil), .cons (.b) (.nil), [(true, 3)], [(false, 1)], [], F101⟩
theorem k101 : CtrOk Try.prog 101 K101 := addFun (H := hn) (n := 60) orders td101 h101 wts_ok l101_0 rfl rfl (fun x => by kernel_rfl)
def tb125 : List (Nat × CF) := [(125, c125)]
theorem td125 : Tied Try.prog tb125 := ⟨⟨_, _, Try.func125, t125⟩, trivial⟩
noncomputable def ct125 : List (Nat × Ctr) := []
theorem h125 : CtsOk Try.prog ct125 := trivial
theorem l125_0 : LpsOk (cfgT Try.prog (look? tb125) (look? ct125) (look? wts) (([] : List (Nat × Bool)).map (·.1))) (allL tb125) [] := trivial
noncomputable def K125 : Ctr := ⟨.cons (.i .i64) (.nil), .cons (.b) (.nil), [(false, 1)], [(false, 1)], [], F125⟩
theorem k125 : CtrOk Try.prog 125 K125 := addFun (H := hn) (n := 60) orders td125 h125 wts_ok l125_0 rfl rfl (fun x => by kernel_rfl)
def tb126 : List (Nat × CF) := [(126, c126)]
theorem td126 : Tied Try.prog tb126 := ⟨⟨_, _, Try.func126, t126⟩, trivial⟩
noncomputable def ct126 : List (Nat × Ctr) := []
theorem h126 : CtsOk Try.prog ct126 := trivial
theorem l126_0 : LpsOk (cfgT Try.prog (look? tb126) (look? ct126) (look? wts) (([] : List (Nat × Bool)).map (·.1))) (allL tb126) [] := trivial
noncomputable def K126 : Ctr := ⟨.cons (.i .i64) (.nil), .cons (.b) (.nil), [(false, 1)], [(false, 1)], [], F126⟩
theorem k126 : CtrOk Try.prog 126 K126 := addFun (H := hn) (n := 60) orders td126 h126 wts_ok l126_0 rfl rfl (fun x => by kernel_rfl)
def tb175 : List (Nat × CF) := [(175, c175)]
theorem td175 : Tied Try.prog tb175 := ⟨⟨_, _, Try.func175, t175⟩, trivial⟩
noncomputable def ct175 : List (Nat × Ctr) := []
theorem h175 : CtsOk Try.prog ct175 := trivial
theorem l175_0 : LpsOk (cfgT Try.prog (look? tb175) (look? ct175) (look? wts) (([] : List (Nat × Bool)).map (·.1))) (allL tb175) [] := trivial
theorem l175_1 : LpsOk (cfgT Try.prog (look? tb175) (look? ct175) (look? wts) (([] : List (Nat × Bool)).map (·.1))) (allL tb175) [(1011200, ⟨L175_1011200p, L175_1011200o, L175_1011200⟩)] := addLoop (H := hn) (n := 60) (live := [0, 1, 7, 8, 1011200]) (b := c175L0) (ps := L175_1011200p) (os := L175_1011200o) (st := L175_1011200t) h175 wts_ok l175_0 (by kernel_rfl) (by kernel_rfl) (fun x => by kernel_rfl)
noncomputable def K175 : Ctr := ⟨.cons (.row (.i .u8)) (.cons (.i .u8) (.nil)), .cons (.i .i64) (.nil), [(false, 1), (false, 1)], [(false, 1)], [], F175⟩
theorem k175 : CtrOk Try.prog 175 K175 := addFun (H := hn) (n := 60) orders td175 h175 wts_ok l175_1 rfl rfl (fun x => by kernel_rfl)
def tb99 : List (Nat × CF) := [(99, c99)]
theorem td99 : Tied Try.prog tb99 := ⟨⟨_, _, Try.func99, t99⟩, trivial⟩
noncomputable def ct99 : List (Nat × Ctr) := []
theorem h99 : CtsOk Try.prog ct99 := trivial
theorem l99_0 : LpsOk (cfgT Try.prog (look? tb99) (look? ct99) (look? wts) (([] : List (Nat × Bool)).map (·.1))) (allL tb99) [] := trivial
noncomputable def K99 : Ctr := ⟨.cons (.i .i64) (.nil), .cons (.b) (.nil), [(false, 1)], [(false, 1)], [], F99⟩
theorem k99 : CtrOk Try.prog 99 K99 := addFun (H := hn) (n := 60) orders td99 h99 wts_ok l99_0 rfl rfl (fun x => by kernel_rfl)
def tb81 : List (Nat × CF) := [(81, c81)]
theorem td81 : Tied Try.prog tb81 := ⟨⟨_, _, Try.func81, t81⟩, trivial⟩
noncomputable def ct81 : List (Nat × Ctr) := []
theorem h81 : CtsOk Try.prog ct81 := trivial
theorem l81_0 : LpsOk (cfgT Try.prog (look? tb81) (look? ct81) (look? wts) (([] : List (Nat × Bool)).map (·.1))) (allL tb81) [] := trivial
noncomputable def K81 : Ctr := ⟨.cons (.i .i64) (.nil), .cons (.b) (.nil), [(false, 1)], [(false, 1)], [], F81⟩
theorem k81 : CtrOk Try.prog 81 K81 := addFun (H := hn) (n := 60) orders td81 h81 wts_ok l81_0 rfl rfl (fun x => by kernel_rfl)
def tb162 : List (Nat × CF) := [(162, c162)]
theorem td162 : Tied Try.prog tb162 := ⟨⟨_, _, Try.func162, t162⟩, trivial⟩
noncomputable def ct162 : List (Nat × Ctr) := []
theorem h162 : CtsOk Try.prog ct162 := trivial
theorem l162_0 : LpsOk (cfgT Try.prog (look? tb162) (look? ct162) (look? wts) (([] : List (Nat × Bool)).map (·.1))) (allL tb162) [] := trivial
theorem l162_1 : LpsOk (cfgT Try.prog (look? tb162) (look? ct162) (look? wts) (([] : List (Nat × Bool)).map (·.1))) (allL tb162) [(1010368, ⟨L162_1010368p, L162_1010368o, L162_1010368⟩)] := addLoop (H := hn) (n := 60) (live := [1, 2, 5, 6, 1010368]) (b := c162L0) (ps := L162_1010368p) (os := L162_1010368o) (st := L162_1010368t) h162 wts_ok l162_0 (by kernel_rfl) (by kernel_rfl) (fun x => by kernel_rfl)
noncomputable def K162 : Ctr := ⟨.cons (sSpec) (.cons (.i .i64) (.nil)), .cons (.b) (.nil), [(true, 1), (false, 1)], [(false, 1)], [], F162⟩
theorem k162 : CtrOk Try.prog 162 K162 := addFun (H := hn) (n := 60) orders td162 h162 wts_ok l162_1 rfl rfl (fun x => by kernel_rfl)
def tb176 : List (Nat × CF) := [(176, c176)]
theorem td176 : Tied Try.prog tb176 := ⟨⟨_, _, Try.func176, t176⟩, trivial⟩
noncomputable def ct176 : List (Nat × Ctr) := []
theorem h176 : CtsOk Try.prog ct176 := trivial
theorem l176_0 : LpsOk (cfgT Try.prog (look? tb176) (look? ct176) (look? wts) (([] : List (Nat × Bool)).map (·.1))) (allL tb176) [] := trivial
theorem l176_1 : LpsOk (cfgT Try.prog (look? tb176) (look? ct176) (look? wts) (([] : List (Nat × Bool)).map (·.1))) (allL tb176) [(1011264, ⟨L176_1011264p, L176_1011264o, L176_1011264⟩)] := addLoop (H := hn) (n := 60) (live := [1, 2, 5, 1011264]) (b := c176L0) (ps := L176_1011264p) (os := L176_1011264o) (st := L176_1011264t) h176 wts_ok l176_0 (by kernel_rfl) (by kernel_rfl) (fun x => by kernel_rfl)
noncomputable def K176 : Ctr := ⟨.cons (sNode) (.cons (.row (.b)) (.nil)), .cons (.b) (.nil), [(true, 3), (false, 1)], [(false, 1)], [], F176⟩
theorem k176 : CtrOk Try.prog 176 K176 := addFun (H := hn) (n := 60) orders td176 h176 wts_ok l176_1 rfl rfl (fun x => by kernel_rfl)
def tb135 : List (Nat × CF) := [(135, c135)]
theorem td135 : Tied Try.prog tb135 := ⟨⟨_, _, Try.func135, t135⟩, trivial⟩
noncomputable def ct135 : List (Nat × Ctr) := [(81, K81)]
theorem h135 : CtsOk Try.prog ct135 := ⟨k81, trivial⟩
theorem l135_0 : LpsOk (cfgT Try.prog (look? tb135) (look? ct135) (look? wts) (([] : List (Nat × Bool)).map (·.1))) (allL tb135) [] := trivial
noncomputable def K135 : Ctr := ⟨.cons (sNode) (.cons (sTask) (.nil)), .cons (.b) (.nil), [(true, 3), (true, 5)], [(false, 1)], [], F135⟩
theorem k135 : CtrOk Try.prog 135 K135 := addFun (H := hn) (n := 60) orders td135 h135 wts_ok l135_0 rfl rfl (fun x => by kernel_rfl)
def tb164 : List (Nat × CF) := [(164, c164)]
theorem td164 : Tied Try.prog tb164 := ⟨⟨_, _, Try.func164, t164⟩, trivial⟩
noncomputable def ct164 : List (Nat × Ctr) := []
theorem h164 : CtsOk Try.prog ct164 := trivial
theorem l164_0 : LpsOk (cfgT Try.prog (look? tb164) (look? ct164) (look? wts) (([] : List (Nat × Bool)).map (·.1))) (allL tb164) [] := trivial
theorem l164_1 : LpsOk (cfgT Try.prog (look? tb164) (look? ct164) (look? wts) (([] : List (Nat × Bool)).map (·.1))) (allL tb164) [(1010496, ⟨L164_1010496p, L164_1010496o, L164_1010496⟩)] := addLoop (H := hn) (n := 60) (live := [1, 2, 5, 6, 1010496]) (b := c164L0) (ps := L164_1010496p) (os := L164_1010496o) (st := L164_1010496t) h164 wts_ok l164_0 (by kernel_rfl) (by kernel_rfl) (fun x => by kernel_rfl)
noncomputable def K164 : Ctr := ⟨.cons (sRun) (.cons (.i .u8) (.nil)), .cons (.i .i64) (.nil), [(true, 5), (false, 1)], [(false, 1)], [], F164⟩
theorem k164 : CtrOk Try.prog 164 K164 := addFun (H := hn) (n := 60) orders td164 h164 wts_ok l164_1 rfl rfl (fun x => by kernel_rfl)
def tb165 : List (Nat × CF) := [(165, c165)]
theorem td165 : Tied Try.prog tb165 := ⟨⟨_, _, Try.func165, t165⟩, trivial⟩
noncomputable def ct165 : List (Nat × Ctr) := []
theorem h165 : CtsOk Try.prog ct165 := trivial
theorem l165_0 : LpsOk (cfgT Try.prog (look? tb165) (look? ct165) (look? wts) (([] : List (Nat × Bool)).map (·.1))) (allL tb165) [] := trivial
theorem l165_1 : LpsOk (cfgT Try.prog (look? tb165) (look? ct165) (look? wts) (([] : List (Nat × Bool)).map (·.1))) (allL tb165) [(1010560, ⟨L165_1010560p, L165_1010560o, L165_1010560⟩)] := addLoop (H := hn) (n := 60) (live := [2, 5, 6, 1010560]) (b := c165L0) (ps := L165_1010560p) (os := L165_1010560o) (st := L165_1010560t) h165 wts_ok l165_0 (by kernel_rfl) (by kernel_rfl) (fun x => by kernel_rfl)
noncomputable def K165 : Ctr := ⟨.cons (sRun) (.cons (.i .i64) (.nil)), .cons (.b) (.nil), [(true, 5), (false, 1)], [(false, 1)], [], F165⟩
theorem k165 : CtrOk Try.prog 165 K165 := addFun (H := hn) (n := 60) orders td165 h165 wts_ok l165_1 rfl rfl (fun x => by kernel_rfl)
def tb137 : List (Nat × CF) := [(137, c137)]
theorem td137 : Tied Try.prog tb137 := ⟨⟨_, _, Try.func137, t137⟩, trivial⟩
noncomputable def ct137 : List (Nat × Ctr) := []
theorem h137 : CtsOk Try.prog ct137 := trivial
theorem l137_0 : LpsOk (cfgT Try.prog (look? tb137) (look? ct137) (look? wts) (([] : List (Nat × Bool)).map (·.1))) (allL tb137) [] := trivial
noncomputable def K137 : Ctr := ⟨.cons (sTask) (.cons (sTask) (.nil)), .cons (.b) (.nil), [(true, 5), (true, 5)], [(false, 1)], [], F137⟩
theorem k137 : CtrOk Try.prog 137 K137 := addFun (H := hn) (n := 60) orders td137 h137 wts_ok l137_0 rfl rfl (fun x => by kernel_rfl)
def tb78 : List (Nat × CF) := [(78, c78)]
theorem td78 : Tied Try.prog tb78 := ⟨⟨_, _, Try.func78, t78⟩, trivial⟩
noncomputable def ct78 : List (Nat × Ctr) := []
theorem h78 : CtsOk Try.prog ct78 := trivial
theorem l78_0 : LpsOk (cfgT Try.prog (look? tb78) (look? ct78) (look? wts) (([] : List (Nat × Bool)).map (·.1))) (allL tb78) [] := trivial
theorem l78_1 : LpsOk (cfgT Try.prog (look? tb78) (look? ct78) (look? wts) (([] : List (Nat × Bool)).map (·.1))) (allL tb78) [(1004992, ⟨L78_1004992p, L78_1004992o, L78_1004992⟩)] := addLoop (H := hn) (n := 60) (live := [0, 1, 5, 1004992]) (b := c78L0) (ps := L78_1004992p) (os := L78_1004992o) (st := L78_1004992t) h78 wts_ok l78_0 (by kernel_rfl) (by kernel_rfl) (fun x => by kernel_rfl)
noncomputable def K78 : Ctr := ⟨.cons (.row (sRun)) (.cons (.i .i64) (.nil)), .cons (.i .i64) (.nil), [(false, 1), (false, 1)], [(false, 1)], [], F78⟩
theorem k78 : CtrOk Try.prog 78 K78 := addFun (H := hn) (n := 60) orders td78 h78 wts_ok l78_1 rfl rfl (fun x => by kernel_rfl)
def tb79 : List (Nat × CF) := [(79, c79)]
theorem td79 : Tied Try.prog tb79 := ⟨⟨_, _, Try.func79, t79⟩, trivial⟩
noncomputable def ct79 : List (Nat × Ctr) := []
theorem h79 : CtsOk Try.prog ct79 := trivial
theorem l79_0 : LpsOk (cfgT Try.prog (look? tb79) (look? ct79) (look? wts) (([] : List (Nat × Bool)).map (·.1))) (allL tb79) [] := trivial
theorem l79_1 : LpsOk (cfgT Try.prog (look? tb79) (look? ct79) (look? wts) (([] : List (Nat × Bool)).map (·.1))) (allL tb79) [(1005056, ⟨L79_1005056p, L79_1005056o, L79_1005056⟩)] := addLoop (H := hn) (n := 60) (live := [0, 1, 6, 1005056]) (b := c79L0) (ps := L79_1005056p) (os := L79_1005056o) (st := L79_1005056t) h79 wts_ok l79_0 (by kernel_rfl) (by kernel_rfl) (fun x => by kernel_rfl)
noncomputable def K79 : Ctr := ⟨.cons (.row (sRun)) (.cons (.s) (.nil)), .cons (.i .i64) (.cons (.b) (.nil)), [(false, 1), (false, 1)], [(false, 1), (false, 1)], [], F79⟩
theorem k79 : CtrOk Try.prog 79 K79 := addFun (H := hn) (n := 60) orders td79 h79 wts_ok l79_1 rfl rfl (fun x => by kernel_rfl)
def tb80 : List (Nat × CF) := [(80, c80)]
theorem td80 : Tied Try.prog tb80 := ⟨⟨_, _, Try.func80, t80⟩, trivial⟩
noncomputable def ct80 : List (Nat × Ctr) := []
theorem h80 : CtsOk Try.prog ct80 := trivial
theorem l80_0 : LpsOk (cfgT Try.prog (look? tb80) (look? ct80) (look? wts) (([] : List (Nat × Bool)).map (·.1))) (allL tb80) [] := trivial
theorem l80_1 : LpsOk (cfgT Try.prog (look? tb80) (look? ct80) (look? wts) (([] : List (Nat × Bool)).map (·.1))) (allL tb80) [(1005121, ⟨L80_1005121p, L80_1005121o, L80_1005121⟩)] := addLoop (H := hn) (n := 60) (live := [0, 2, 4, 5, 6, 7, 8, 1005121]) (b := c80L0) (ps := L80_1005121p) (os := L80_1005121o) (st := L80_1005121t) h80 wts_ok l80_0 (by kernel_rfl) (by kernel_rfl) (fun x => by kernel_rfl)
theorem l80_2 : LpsOk (cfgT Try.prog (look? tb80) (look? ct80) (look? wts) (([] : List (Nat × Bool)).map (·.1))) (allL tb80) [(1005120, ⟨L80_1005120p, L80_1005120o, L80_1005120⟩), (1005121, ⟨L80_1005121p, L80_1005121o, L80_1005121⟩)] := addLoop (H := hn) (n := 60) (live := [0, 2, 4, 5, 6, 7, 1005120]) (b := c80L1) (ps := L80_1005120p) (os := L80_1005120o) (st := L80_1005120t) h80 wts_ok l80_1 (by kernel_rfl) (by kernel_rfl) (fun x => by kernel_rfl)
noncomputable def K80 : Ctr := ⟨.cons (.row (sRun)) (.nil), .cons (sPlace) (.cons (.b) (.nil)), [(false, 1)], [(true, 3), (false, 1)], [], F80⟩
theorem k80 : CtrOk Try.prog 80 K80 := addFun (H := hn) (n := 60) orders td80 h80 wts_ok l80_2 rfl rfl (fun x => by kernel_rfl)
def tb33 : List (Nat × CF) := [(33, c33)]
theorem td33 : Tied Try.prog tb33 := ⟨⟨_, _, Try.func33, t33⟩, trivial⟩
noncomputable def ct33 : List (Nat × Ctr) := []
theorem h33 : CtsOk Try.prog ct33 := trivial
theorem l33_0 : LpsOk (cfgT Try.prog (look? tb33) (look? ct33) (look? wts) (([] : List (Nat × Bool)).map (·.1))) (allL tb33) [] := trivial
noncomputable def K33 : Ctr := ⟨.cons (sTask) (.cons (.i .i64) (.nil)), .cons (.b) (.nil), [(true, 5), (false, 1)], [(false, 1)], [], F33⟩
theorem k33 : CtrOk Try.prog 33 K33 := addFun (H := hn) (n := 60) orders td33 h33 wts_ok l33_0 rfl rfl (fun x => by kernel_rfl)
def tb98 : List (Nat × CF) := [(98, c98)]
theorem td98 : Tied Try.prog tb98 := ⟨⟨_, _, Try.func98, t98⟩, trivial⟩
noncomputable def ct98 : List (Nat × Ctr) := []
theorem h98 : CtsOk Try.prog ct98 := trivial
theorem l98_0 : LpsOk (cfgT Try.prog (look? tb98) (look? ct98) (look? wts) (([] : List (Nat × Bool)).map (·.1))) (allL tb98) [] := trivial
theorem l98_1 : LpsOk (cfgT Try.prog (look? tb98) (look? ct98) (look? wts) (([] : List (Nat × Bool)).map (·.1))) (allL tb98) [(1006272, ⟨L98_1006272p, L98_1006272o, L98_1006272⟩)] := addLoop (H := hn) (n := 60) (live := [3, 6, 7, 8, 1006272]) (b := c98L0) (ps := L98_1006272p) (os := L98_1006272o) (st := L98_1006272t) h98 wts_ok l98_0 (by kernel_rfl) (by kernel_rfl) (fun x => by kernel_rfl)
noncomputable def K98 : Ctr := ⟨.cons (.row (.i .i64)) (.nil), .cons (.i .i64) (.nil), [(false, 1)], [(false, 1)], [], F98⟩
theorem k98 : CtrOk Try.prog 98 K98 := addFun (H := hn) (n := 60) orders td98 h98 wts_ok l98_1 rfl rfl (fun x => by kernel_rfl)
def tb108 : List (Nat × CF) := [(108, c108)]
theorem td108 : Tied Try.prog tb108 := ⟨⟨_, _, Try.func108, t108⟩, trivial⟩
noncomputable def ct108 : List (Nat × Ctr) := []
theorem h108 : CtsOk Try.prog ct108 := trivial
theorem l108_0 : LpsOk (cfgT Try.prog (look? tb108) (look? ct108) (look? wts) (([] : List (Nat × Bool)).map (·.1))) (allL tb108) [] := trivial
noncomputable def K108 : Ctr := ⟨.cons (sTask) (.cons (.i .i64) (.nil)), .cons (.b) (.nil), [(true, 5), (false, 1)], [(false, 1)], [], F108⟩
theorem k108 : CtrOk Try.prog 108 K108 := addFun (H := hn) (n := 60) orders td108 h108 wts_ok l108_0 rfl rfl (fun x => by kernel_rfl)
def tb133 : List (Nat × CF) := [(133, c133)]
theorem td133 : Tied Try.prog tb133 := ⟨⟨_, _, Try.func133, t133⟩, trivial⟩
noncomputable def ct133 : List (Nat × Ctr) := []
theorem h133 : CtsOk Try.prog ct133 := trivial
theorem l133_0 : LpsOk (cfgT Try.prog (look? tb133) (look? ct133) (look? wts) (([] : List (Nat × Bool)).map (·.1))) (allL tb133) [] := trivial
noncomputable def K133 : Ctr := ⟨.cons (sPlace) (.cons (sPlace) (.nil)), .cons (.b) (.nil), [(true, 3), (true, 3)], [(false, 1)], [], F133⟩
theorem k133 : CtrOk Try.prog 133 K133 := addFun (H := hn) (n := 60) orders td133 h133 wts_ok l133_0 rfl rfl (fun x => by kernel_rfl)
def tb48 : List (Nat × CF) := [(48, c48)]
theorem td48 : Tied Try.prog tb48 := ⟨⟨_, _, Try.func48, t48⟩, trivial⟩
noncomputable def ct48 : List (Nat × Ctr) := []
theorem h48 : CtsOk Try.prog ct48 := trivial
theorem l48_0 : LpsOk (cfgT Try.prog (look? tb48) (look? ct48) (look? wts) (([] : List (Nat × Bool)).map (·.1))) (allL tb48) [] := trivial
theorem l48_1 : LpsOk (cfgT Try.prog (look? tb48) (look? ct48) (look? wts) (([] : List (Nat × Bool)).map (·.1))) (allL tb48) [(1003072, ⟨L48_1003072p, L48_1003072o, L48_1003072⟩)] := addLoop (H := hn) (n := 60) (live := [0, 1, 5, 1003072]) (b := c48L0) (ps := L48_1003072p) (os := L48_1003072o) (st := L48_1003072t) h48 wts_ok l48_0 (by kernel_rfl) (by kernel_rfl) (fun x => by kernel_rfl)
noncomputable def K48 : Ctr := ⟨.cons (.row (sPlace)) (.cons (.row (sPlace)) (.nil)), .cons (.b) (.nil), [(false, 1), (false, 1)], [(false, 1)], [], F48⟩
theorem k48 : CtrOk Try.prog 48 K48 := addFun (H := hn) (n := 60) orders td48 h48 wts_ok l48_1 rfl rfl (fun x => by kernel_rfl)
def tb115 : List (Nat × CF) := [(115, c115)]
theorem td115 : Tied Try.prog tb115 := ⟨⟨_, _, Try.func115, t115⟩, trivial⟩
noncomputable def ct115 : List (Nat × Ctr) := []
theorem h115 : CtsOk Try.prog ct115 := trivial
theorem l115_0 : LpsOk (cfgT Try.prog (look? tb115) (look? ct115) (look? wts) (([] : List (Nat × Bool)).map (·.1))) (allL tb115) [] := trivial
theorem l115_1 : LpsOk (cfgT Try.prog (look? tb115) (look? ct115) (look? wts) (([] : List (Nat × Bool)).map (·.1))) (allL tb115) [(1007360, ⟨L115_1007360p, L115_1007360o, L115_1007360⟩)] := addLoop (H := hn) (n := 60) (live := [0, 1, 5, 1007360]) (b := c115L0) (ps := L115_1007360p) (os := L115_1007360o) (st := L115_1007360t) h115 wts_ok l115_0 (by kernel_rfl) (by kernel_rfl) (fun x => by kernel_rfl)
noncomputable def K115 : Ctr := ⟨.cons (.row (.i .i64)) (.cons (.row (.i .i64)) (.nil)), .cons (.b) (.nil), [(false, 1), (false, 1)], [(false, 1)], [], F115⟩
theorem k115 : CtrOk Try.prog 115 K115 := addFun (H := hn) (n := 60) orders td115 h115 wts_ok l115_1 rfl rfl (fun x => by kernel_rfl)
def tb65 : List (Nat × CF) := [(65, c65)]
theorem td65 : Tied Try.prog tb65 := ⟨⟨_, _, Try.func65, t65⟩, trivial⟩
noncomputable def ct65 : List (Nat × Ctr) := [(10, K10)]
theorem h65 : CtsOk Try.prog ct65 := ⟨k10, trivial⟩
theorem l65_0 : LpsOk (cfgT Try.prog (look? tb65) (look? ct65) (look? wts) (([] : List (Nat × Bool)).map (·.1))) (allL tb65) [] := trivial
noncomputable def K65 : Ctr := ⟨.cons (sRun) (.nil), .cons (.b) (.nil), [(true, 5)], [(false, 1)], [], F65⟩
theorem k65 : CtrOk Try.prog 65 K65 := addFun (H := hn) (n := 60) orders td65 h65 wts_ok l65_0 rfl rfl (fun x => by kernel_rfl)
def tb77 : List (Nat × CF) := [(77, c77)]
theorem td77 : Tied Try.prog tb77 := ⟨⟨_, _, Try.func77, t77⟩, trivial⟩
noncomputable def ct77 : List (Nat × Ctr) := [(107, K107)]
theorem h77 : CtsOk Try.prog ct77 := ⟨k107, trivial⟩
theorem l77_0 : LpsOk (cfgT Try.prog (look? tb77) (look? ct77) (look? wts) (([] : List (Nat × Bool)).map (·.1))) (allL tb77) [] := trivial
noncomputable def K77 : Ctr := ⟨.cons (sRun) (.nil), .cons (sRun) (.nil), [(true, 5)], [(true, 5)], [], F77⟩
theorem k77 : CtrOk Try.prog 77 K77 := addFun (H := hn) (n := 60) orders td77 h77 wts_ok l77_0 rfl rfl (fun x => by kernel_rfl)
def tb70 : List (Nat × CF) := [(70, c70)]
theorem td70 : Tied Try.prog tb70 := ⟨⟨_, _, Try.func70, t70⟩, trivial⟩
noncomputable def ct70 : List (Nat × Ctr) := [(100, K100)]
theorem h70 : CtsOk Try.prog ct70 := ⟨k100, trivial⟩
theorem l70_0 : LpsOk (cfgT Try.prog (look? tb70) (look? ct70) (look? wts) (([] : List (Nat × Bool)).map (·.1))) (allL tb70) [] := trivial
theorem l70_1 : LpsOk (cfgT Try.prog (look? tb70) (look? ct70) (look? wts) (([] : List (Nat × Bool)).map (·.1))) (allL tb70) [(1004486, ⟨L70_1004486p, L70_1004486o, L70_1004486⟩)] := addLoop (H := hn) (n := 60) (live := [6, 97, 98, 1004486]) (b := c70L6) (ps := L70_1004486p) (os := L70_1004486o) (st := L70_1004486t) h70 wts_ok l70_0 (by kernel_rfl) (by kernel_rfl) (fun x => by kernel_rfl)
theorem l70_2 : LpsOk (cfgT Try.prog (look? tb70) (look? ct70) (look? wts) (([] : List (Nat × Bool)).map (·.1))) (allL tb70) [(1004485, ⟨L70_1004485p, L70_1004485o, L70_1004485⟩), (1004486, ⟨L70_1004486p, L70_1004486o, L70_1004486⟩)] := addLoop (H := hn) (n := 60) (live := [3, 6, 11, 12, 59, 60, 63, 64, 67, 68, 1004485]) (b := c70L3) (ps := L70_1004485p) (os := L70_1004485o) (st := L70_1004485t) h70 wts_ok l70_1 (by kernel_rfl) (by kernel_rfl) (fun x => by kernel_rfl)
theorem l70_3 : LpsOk (cfgT Try.prog (look? tb70) (look? ct70) (look? wts) (([] : List (Nat × Bool)).map (·.1))) (allL tb70) [(1004484, ⟨L70_1004484p, L70_1004484o, L70_1004484⟩), (1004485, ⟨L70_1004485p, L70_1004485o, L70_1004485⟩), (1004486, ⟨L70_1004486p, L70_1004486o, L70_1004486⟩)] := addLoop (H := hn) (n := 60) (live := [3, 6, 11, 59, 60, 63, 64, 1004484]) (b := c70L4) (ps := L70_1004484p) (os := L70_1004484o) (st := L70_1004484t) h70 wts_ok l70_2 (by kernel_rfl) (by kernel_rfl) (fun x => by kernel_rfl)
theorem l70_4 : LpsOk (cfgT Try.prog (look? tb70) (look? ct70) (look? wts) (([] : List (Nat × Bool)).map (·.1))) (allL tb70) [(1004483, ⟨L70_1004483p, L70_1004483o, L70_1004483⟩), (1004484, ⟨L70_1004484p, L70_1004484o, L70_1004484⟩), (1004485, ⟨L70_1004485p, L70_1004485o, L70_1004485⟩), (1004486, ⟨L70_1004486p, L70_1004486o, L70_1004486⟩)] := addLoop (H := hn) (n := 60) (live := [3, 6, 59, 60, 1004483]) (b := c70L5) (ps := L70_1004483p) (os := L70_1004483o) (st := L70_1004483t) h70 wts_ok l70_3 (by kernel_rfl) (by kernel_rfl) (fun x => by kernel_rfl)
theorem l70_5 : LpsOk (cfgT Try.prog (look? tb70) (look? ct70) (look? wts) (([] : List (Nat × Bool)).map (·.1))) (allL tb70) [(1004482, ⟨L70_1004482p, L70_1004482o, L70_1004482⟩), (1004483, ⟨L70_1004483p, L70_1004483o, L70_1004483⟩), (1004484, ⟨L70_1004484p, L70_1004484o, L70_1004484⟩), (1004485, ⟨L70_1004485p, L70_1004485o, L70_1004485⟩), (1004486, ⟨L70_1004486p, L70_1004486o, L70_1004486⟩)] := addLoop (H := hn) (n := 60) (live := [3, 6, 7, 39, 40, 41, 47, 48, 49, 1004482]) (b := c70L1) (ps := L70_1004482p) (os := L70_1004482o) (st := L70_1004482t) h70 wts_ok l70_4 (by kernel_rfl) (by kernel_rfl) (fun x => by kernel_rfl)
theorem l70_6 : LpsOk (cfgT Try.prog (look? tb70) (look? ct70) (look? wts) (([] : List (Nat × Bool)).map (·.1))) (allL tb70) [(1004481, ⟨L70_1004481p, L70_1004481o, L70_1004481⟩), (1004482, ⟨L70_1004482p, L70_1004482o, L70_1004482⟩), (1004483, ⟨L70_1004483p, L70_1004483o, L70_1004483⟩), (1004484, ⟨L70_1004484p, L70_1004484o, L70_1004484⟩), (1004485, ⟨L70_1004485p, L70_1004485o, L70_1004485⟩), (1004486, ⟨L70_1004486p, L70_1004486o, L70_1004486⟩)] := addLoop (H := hn) (n := 60) (live := [3, 6, 39, 40, 41, 1004481]) (b := c70L2) (ps := L70_1004481p) (os := L70_1004481o) (st := L70_1004481t) h70 wts_ok l70_5 (by kernel_rfl) (by kernel_rfl) (fun x => by kernel_rfl)
theorem l70_7 : LpsOk (cfgT Try.prog (look? tb70) (look? ct70) (look? wts) (([] : List (Nat × Bool)).map (·.1))) (allL tb70) [(1004480, ⟨L70_1004480p, L70_1004480o, L70_1004480⟩), (1004481, ⟨L70_1004481p, L70_1004481o, L70_1004481⟩), (1004482, ⟨L70_1004482p, L70_1004482o, L70_1004482⟩), (1004483, ⟨L70_1004483p, L70_1004483o, L70_1004483⟩), (1004484, ⟨L70_1004484p, L70_1004484o, L70_1004484⟩), (1004485, ⟨L70_1004485p, L70_1004485o, L70_1004485⟩), (1004486, ⟨L70_1004486p, L70_1004486o, L70_1004486⟩)] := addLoop (H := hn) (n := 60) (live := [1, 3, 25, 26, 27, 1004480]) (b := c70L0) (ps := L70_1004480p) (os := L70_1004480o) (st := L70_1004480t) h70 wts_ok l70_6 (by kernel_rfl) (by kernel_rfl) (fun x => by kernel_rfl)
noncomputable def K70 : Ctr := ⟨.cons (sSpec) (.nil), .cons (.i .i64) (.nil), [(true, 1)], [(false, 1)], [], F70⟩
theorem k70 : CtrOk Try.prog 70 K70 := addFun (H := hn) (n := 60) orders td70 h70 wts_ok l70_7 rfl rfl (fun x => by kernel_rfl)
def tb102 : List (Nat × CF) := [(102, c102)]
theorem td102 : Tied Try.prog tb102 := ⟨⟨_, _, Try.func102, t102⟩, trivial⟩
noncomputable def ct102 : List (Nat × Ctr) := [(125, K125), (126, K126)]
theorem h102 : CtsOk Try.prog ct102 := ⟨k125, k126, trivial⟩
theorem l102_0 : LpsOk (cfgT Try.prog (look? tb102) (look? ct102) (look? wts) (([] : List (Nat × Bool)).map (·.1))) (allL tb102) [] := trivial
noncomputable def K102 : Ctr := ⟨.cons (sNode) (.cons (sTask) (.nil)), .cons (.b) (.nil), [(true, 3), (true, 5)], [(false, 1)], [], F102⟩
theorem k102 : CtrOk Try.prog 102 K102 := addFun (H := hn) (n := 60) orders td102 h102 wts_ok l102_0 rfl rfl (fun x => by kernel_rfl)
def tb161 : List (Nat × CF) := [(161, c161)]
theorem td161 : Tied Try.prog tb161 := ⟨⟨_, _, Try.func161, t161⟩, trivial⟩
noncomputable def ct161 : List (Nat × Ctr) := [(175, K175)]
theorem h161 : CtsOk Try.prog ct161 := ⟨k175, trivial⟩
theorem l161_0 : LpsOk (cfgT Try.prog (look? tb161) (look? ct161) (look? wts) (([] : List (Nat × Bool)).map (·.1))) (allL tb161) [] := trivial
noncomputable def K161 : Ctr := ⟨.cons (.row (.i .u8)) (.cons (.i .u8) (.nil)), .cons (.b) (.nil), [(false, 1), (false, 1)], [(false, 1)], [], F161⟩
theorem k161 : CtrOk Try.prog 161 K161 := addFun (H := hn) (n := 60) orders td161 h161 wts_ok l161_0 rfl rfl (fun x => by kernel_rfl)
def tb69 : List (Nat × CF) := [(69, c69)]
theorem td69 : Tied Try.prog tb69 := ⟨⟨_, _, Try.func69, t69⟩, trivial⟩
noncomputable def ct69 : List (Nat × Ctr) := [(99, K99)]
theorem h69 : CtsOk Try.prog ct69 := ⟨k99, trivial⟩
theorem l69_0 : LpsOk (cfgT Try.prog (look? tb69) (look? ct69) (look? wts) (([] : List (Nat × Bool)).map (·.1))) (allL tb69) [] := trivial
noncomputable def K69 : Ctr := ⟨.cons (.i .i64) (.cons (.i .i64) (.nil)), .cons (.i .i64) (.nil), [(false, 1), (false, 1)], [(false, 1)], [], F69⟩
theorem k69 : CtrOk Try.prog 69 K69 := addFun (H := hn) (n := 60) orders td69 h69 wts_ok l69_0 rfl rfl (fun x => by kernel_rfl)
def tb163 : List (Nat × CF) := [(163, c163)]
theorem td163 : Tied Try.prog tb163 := ⟨⟨_, _, Try.func163, t163⟩, trivial⟩
noncomputable def ct163 : List (Nat × Ctr) := [(176, K176)]
theorem h163 : CtsOk Try.prog ct163 := ⟨k176, trivial⟩
theorem l163_0 : LpsOk (cfgT Try.prog (look? tb163) (look? ct163) (look? wts) (([] : List (Nat × Bool)).map (·.1))) (allL tb163) [] := trivial
theorem l163_1 : LpsOk (cfgT Try.prog (look? tb163) (look? ct163) (look? wts) (([] : List (Nat × Bool)).map (·.1))) (allL tb163) [(1010433, ⟨L163_1010433p, L163_1010433o, L163_1010433⟩)] := addLoop (H := hn) (n := 60) (live := [1, 3, 4, 5, 6, 1010433]) (b := c163L0) (ps := L163_1010433p) (os := L163_1010433o) (st := L163_1010433t) h163 wts_ok l163_0 (by kernel_rfl) (by kernel_rfl) (fun x => match x with | .inl x => (by kernel_rfl) | .inr (x) => (by kernel_rfl))
theorem l163_2 : LpsOk (cfgT Try.prog (look? tb163) (look? ct163) (look? wts) (([] : List (Nat × Bool)).map (·.1))) (allL tb163) [(1010432, ⟨L163_1010432p, L163_1010432o, L163_1010432⟩), (1010433, ⟨L163_1010433p, L163_1010433o, L163_1010433⟩)] := addLoop (H := hn) (n := 60) (live := [1, 3, 4, 5, 1010432]) (b := c163L1) (ps := L163_1010432p) (os := L163_1010432o) (st := L163_1010432t) h163 wts_ok l163_1 (by kernel_rfl) (by kernel_rfl) (fun x => match x with | .inl x => (by kernel_rfl) | .inr (x) => (by kernel_rfl))
noncomputable def K163 : Ctr := ⟨.cons (sSpec) (.nil), .cons (.row (.i .i64)) (.nil), [(true, 1)], [(false, 1)], [], F163⟩
theorem k163 : CtrOk Try.prog 163 K163 := addFun (H := hn) (n := 60) orders td163 h163 wts_ok l163_2 rfl rfl (fun x => by kernel_rfl)
def tb136 : List (Nat × CF) := [(136, c136)]
theorem td136 : Tied Try.prog tb136 := ⟨⟨_, _, Try.func136, t136⟩, trivial⟩
noncomputable def ct136 : List (Nat × Ctr) := [(164, K164), (165, K165)]
theorem h136 : CtsOk Try.prog ct136 := ⟨k164, k165, trivial⟩
theorem l136_0 : LpsOk (cfgT Try.prog (look? tb136) (look? ct136) (look? wts) (([] : List (Nat × Bool)).map (·.1))) (allL tb136) [] := trivial
theorem l136_1 : LpsOk (cfgT Try.prog (look? tb136) (look? ct136) (look? wts) (([] : List (Nat × Bool)).map (·.1))) (allL tb136) [(1008704, ⟨L136_1008704p, L136_1008704o, L136_1008704⟩)] := addLoop (H := hn) (n := 60) (live := [1, 3, 4, 5, 6, 7, 1008704]) (b := c136L0) (ps := L136_1008704p) (os := L136_1008704o) (st := L136_1008704t) h136 wts_ok l136_0 (by kernel_rfl) (by kernel_rfl) (fun x => by kernel_rfl)
noncomputable def K136 : Ctr := ⟨.cons (sRun) (.nil), .cons (.b) (.nil), [(true, 5)], [(false, 1)], [], F136⟩
theorem k136 : CtrOk Try.prog 136 K136 := addFun (H := hn) (n := 60) orders td136 h136 wts_ok l136_1 rfl rfl (fun x => by kernel_rfl)
def tb111 : List (Nat × CF) := [(111, c111)]
theorem td111 : Tied Try.prog tb111 := ⟨⟨_, _, Try.func111, t111⟩, trivial⟩
noncomputable def ct111 : List (Nat × Ctr) := [(137, K137)]
theorem h111 : CtsOk Try.prog ct111 := ⟨k137, trivial⟩
theorem l111_0 : LpsOk (cfgT Try.prog (look? tb111) (look? ct111) (look? wts) (([] : List (Nat × Bool)).map (·.1))) (allL tb111) [] := trivial
theorem l111_1 : LpsOk (cfgT Try.prog (look? tb111) (look? ct111) (look? wts) (([] : List (Nat × Bool)).map (·.1))) (allL tb111) [(1007105, ⟨L111_1007105p, L111_1007105o, L111_1007105⟩)] := addLoop (H := hn) (n := 60) (live := [2, 3, 4, 7, 8, 1007105]) (b := c111L0) (ps := L111_1007105p) (os := L111_1007105o) (st := L111_1007105t) h111 wts_ok l111_0 (by kernel_rfl) (by kernel_rfl) (fun x => by kernel_rfl)
theorem l111_2 : LpsOk (cfgT Try.prog (look? tb111) (look? ct111) (look? wts) (([] : List (Nat × Bool)).map (·.1))) (allL tb111) [(1007104, ⟨L111_1007104p, L111_1007104o, L111_1007104⟩), (1007105, ⟨L111_1007105p, L111_1007105o, L111_1007105⟩)] := addLoop (H := hn) (n := 60) (live := [2, 3, 4, 7, 1007104]) (b := c111L1) (ps := L111_1007104p) (os := L111_1007104o) (st := L111_1007104t) h111 wts_ok l111_1 (by kernel_rfl) (by kernel_rfl) (fun x => by kernel_rfl)
noncomputable def K111 : Ctr := ⟨.cons (sRun) (.cons (sRun) (.cons (.b) (.nil))), .cons (.b) (.nil), [(true, 5), (true, 5), (false, 1)], [(false, 1)], [], F111⟩
theorem k111 : CtrOk Try.prog 111 K111 := addFun (H := hn) (n := 60) orders td111 h111 wts_ok l111_2 rfl rfl (fun x => by kernel_rfl)
def tb97 : List (Nat × CF) := [(97, c97)]
theorem td97 : Tied Try.prog tb97 := ⟨⟨_, _, Try.func97, t97⟩, trivial⟩
noncomputable def ct97 : List (Nat × Ctr) := [(69, K69), (98, K98)]
theorem h97 : CtsOk Try.prog ct97 := ⟨k69, k98, trivial⟩
theorem l97_0 : LpsOk (cfgT Try.prog (look? tb97) (look? ct97) (look? wts) (([] : List (Nat × Bool)).map (·.1))) (allL tb97) [] := trivial
noncomputable def K97 : Ctr := ⟨.cons (sPlace) (.cons (sPlace) (.nil)), .cons (.i .i64) (.nil), [(true, 3), (true, 3)], [(false, 1)], [], F97⟩
theorem k97 : CtrOk Try.prog 97 K97 := addFun (H := hn) (n := 60) orders td97 h97 wts_ok l97_0 rfl rfl (fun x => by kernel_rfl)
def tb109 : List (Nat × CF) := [(109, c109)]
theorem td109 : Tied Try.prog tb109 := ⟨⟨_, _, Try.func109, t109⟩, trivial⟩
noncomputable def ct109 : List (Nat × Ctr) := [(133, K133)]
theorem h109 : CtsOk Try.prog ct109 := ⟨k133, trivial⟩
theorem l109_0 : LpsOk (cfgT Try.prog (look? tb109) (look? ct109) (look? wts) (([] : List (Nat × Bool)).map (·.1))) (allL tb109) [] := trivial
theorem l109_1 : LpsOk (cfgT Try.prog (look? tb109) (look? ct109) (look? wts) (([] : List (Nat × Bool)).map (·.1))) (allL tb109) [(1006976, ⟨L109_1006976p, L109_1006976o, L109_1006976⟩)] := addLoop (H := hn) (n := 60) (live := [0, 3, 5, 6, 7, 1006976]) (b := c109L0) (ps := L109_1006976p) (os := L109_1006976o) (st := L109_1006976t) h109 wts_ok l109_0 (by kernel_rfl) (by kernel_rfl) (fun x => match x with | .inl x => (by kernel_rfl) | .inr (x) => (by kernel_rfl))
noncomputable def K109 : Ctr := ⟨.cons (.row (sPlace)) (.cons (sPlace) (.nil)), .cons (.row (sPlace)) (.nil), [(false, 1), (true, 3)], [(false, 1)], [], F109⟩
theorem k109 : CtrOk Try.prog 109 K109 := addFun (H := hn) (n := 60) orders td109 h109 wts_ok l109_1 rfl rfl (fun x => by kernel_rfl)
def tb86 : List (Nat × CF) := [(86, c86)]
theorem td86 : Tied Try.prog tb86 := ⟨⟨_, _, Try.func86, t86⟩, trivial⟩
noncomputable def ct86 : List (Nat × Ctr) := [(115, K115)]
theorem h86 : CtsOk Try.prog ct86 := ⟨k115, trivial⟩
theorem l86_0 : LpsOk (cfgT Try.prog (look? tb86) (look? ct86) (look? wts) (([] : List (Nat × Bool)).map (·.1))) (allL tb86) [] := trivial
theorem l86_1 : LpsOk (cfgT Try.prog (look? tb86) (look? ct86) (look? wts) (([] : List (Nat × Bool)).map (·.1))) (allL tb86) [(1005504, ⟨L86_1005504p, L86_1005504o, L86_1005504⟩)] := addLoop (H := hn) (n := 60) (live := [2, 3, 5, 1005504]) (b := c86L0) (ps := L86_1005504p) (os := L86_1005504o) (st := L86_1005504t) h86 wts_ok l86_0 (by kernel_rfl) (by kernel_rfl) (fun x => by kernel_rfl)
noncomputable def K86 : Ctr := ⟨.cons (sSpec) (.cons (sSpec) (.nil)), .cons (.b) (.nil), [(true, 1), (true, 1)], [(false, 1)], [], F86⟩
theorem k86 : CtrOk Try.prog 86 K86 := addFun (H := hn) (n := 60) orders td86 h86 wts_ok l86_1 rfl rfl (fun x => by kernel_rfl)
def tb29 : List (Nat × CF) := [(29, c29)]
theorem td29 : Tied Try.prog tb29 := ⟨⟨_, _, Try.func29, t29⟩, trivial⟩
noncomputable def ct29 : List (Nat × Ctr) := [(65, K65)]
theorem h29 : CtsOk Try.prog ct29 := ⟨k65, trivial⟩
theorem l29_0 : LpsOk (cfgT Try.prog (look? tb29) (look? ct29) (look? wts) (([] : List (Nat × Bool)).map (·.1))) (allL tb29) [] := trivial
theorem l29_1 : LpsOk (cfgT Try.prog (look? tb29) (look? ct29) (look? wts) (([] : List (Nat × Bool)).map (·.1))) (allL tb29) [(1001856, ⟨L29_1001856p, L29_1001856o, L29_1001856⟩)] := addLoop (H := hn) (n := 60) (live := [0, 3, 1001856]) (b := c29L0) (ps := L29_1001856p) (os := L29_1001856o) (st := L29_1001856t) h29 wts_ok l29_0 (by kernel_rfl) (by kernel_rfl) (fun x => by kernel_rfl)
noncomputable def K29 : Ctr := ⟨.cons (.row (sRun)) (.nil), .cons (.b) (.nil), [(false, 1)], [(false, 1)], [], F29⟩
theorem k29 : CtrOk Try.prog 29 K29 := addFun (H := hn) (n := 60) orders td29 h29 wts_ok l29_1 rfl rfl (fun x => by kernel_rfl)
def tb41 : List (Nat × CF) := [(41, c41)]
theorem td41 : Tied Try.prog tb41 := ⟨⟨_, _, Try.func41, t41⟩, trivial⟩
noncomputable def ct41 : List (Nat × Ctr) := [(77, K77)]
theorem h41 : CtsOk Try.prog ct41 := ⟨k77, trivial⟩
theorem l41_0 : LpsOk (cfgT Try.prog (look? tb41) (look? ct41) (look? wts) (([] : List (Nat × Bool)).map (·.1))) (allL tb41) [] := trivial
theorem l41_1 : LpsOk (cfgT Try.prog (look? tb41) (look? ct41) (look? wts) (([] : List (Nat × Bool)).map (·.1))) (allL tb41) [(1002624, ⟨L41_1002624p, L41_1002624o, L41_1002624⟩)] := addLoop (H := hn) (n := 60) (live := [0, 3, 4, 1002624]) (b := c41L0) (ps := L41_1002624p) (os := L41_1002624o) (st := L41_1002624t) h41 wts_ok l41_0 (by kernel_rfl) (by kernel_rfl) (fun x => match x with | .inl x => (by kernel_rfl) | .inr (x) => (by kernel_rfl))
noncomputable def K41 : Ctr := ⟨.cons (.row (sRun)) (.nil), .cons (.row (sRun)) (.nil), [(false, 1)], [(false, 1)], [], F41⟩
theorem k41 : CtrOk Try.prog 41 K41 := addFun (H := hn) (n := 60) orders td41 h41 wts_ok l41_1 rfl rfl (fun x => by kernel_rfl)
def tb71 : List (Nat × CF) := [(71, c71)]
theorem td71 : Tied Try.prog tb71 := ⟨⟨_, _, Try.func71, t71⟩, trivial⟩
noncomputable def ct71 : List (Nat × Ctr) := [(101, K101), (102, K102)]
theorem h71 : CtsOk Try.prog ct71 := ⟨k101, k102, trivial⟩
theorem l71_0 : LpsOk (cfgT Try.prog (look? tb71) (look? ct71) (look? wts) (([] : List (Nat × Bool)).map (·.1))) (allL tb71) [] := trivial
noncomputable def K71 : Ctr := ⟨.cons (sNode) (.cons (sTask) (.nil)), .cons (.i .i64) (.nil), [(true, 3), (true, 5)], [(false, 1)], [], F71⟩
theorem k71 : CtrOk Try.prog 71 K71 := addFun (H := hn) (n := 60) orders td71 h71 wts_ok l71_0 rfl rfl (fun x => by kernel_rfl)
def tb103 : List (Nat × CF) := [(103, c103), (128, c128), (127, c127), (159, c159)]
theorem td103 : Tied Try.prog tb103 := ⟨⟨_, _, Try.func103, t103⟩, ⟨_, _, Try.func128, t128⟩, ⟨_, _, Try.func127, t127⟩, ⟨_, _, Try.func159, t159⟩, trivial⟩
noncomputable def ct103 : List (Nat × Ctr) := []
theorem h103 : CtsOk Try.prog ct103 := trivial
theorem l103_0 : LpsOk (cfgT Try.prog (look? tb103) (look? ct103) (look? wts) (([] : List (Nat × Bool)).map (·.1))) (allL tb103) [] := trivial
theorem l103_1 : LpsOk (cfgT Try.prog (look? tb103) (look? ct103) (look? wts) (([] : List (Nat × Bool)).map (·.1))) (allL tb103) [(1010176, ⟨L103_1010176p, L103_1010176o, L103_1010176⟩)] := addLoop (H := hn) (n := 60) (live := [0, 1, 7, 8, 1010176]) (b := c159L0) (ps := L103_1010176p) (os := L103_1010176o) (st := L103_1010176t) h103 wts_ok l103_0 (by kernel_rfl) (by kernel_rfl) (fun x => by kernel_rfl)
noncomputable def K103 : Ctr := ⟨.cons (sRun) (.cons (sNode) (.nil)), .cons (.b) (.nil), [(true, 5), (true, 3)], [(false, 1)], [], F103⟩
theorem k103 : CtrOk Try.prog 103 K103 := addFun (H := hn) (n := 60) orders td103 h103 wts_ok l103_1 rfl rfl (fun x => by kernel_rfl)
def tb131 : List (Nat × CF) := [(131, c131)]
theorem td131 : Tied Try.prog tb131 := ⟨⟨_, _, Try.func131, t131⟩, trivial⟩
noncomputable def ct131 : List (Nat × Ctr) := [(161, K161)]
theorem h131 : CtsOk Try.prog ct131 := ⟨k161, trivial⟩
theorem l131_0 : LpsOk (cfgT Try.prog (look? tb131) (look? ct131) (look? wts) (([] : List (Nat × Bool)).map (·.1))) (allL tb131) [] := trivial
noncomputable def K131 : Ctr := ⟨.cons (sTask) (.cons (.row (.i .u8)) (.nil)), .cons (.b) (.nil), [(true, 5), (false, 1)], [(false, 1)], [], F131⟩
theorem k131 : CtrOk Try.prog 131 K131 := addFun (H := hn) (n := 60) orders td131 h131 wts_ok l131_0 rfl rfl (fun x => by kernel_rfl)
def tb134 : List (Nat × CF) := [(134, c134)]
theorem td134 : Tied Try.prog tb134 := ⟨⟨_, _, Try.func134, t134⟩, trivial⟩
noncomputable def ct134 : List (Nat × Ctr) := [(162, K162), (163, K163)]
theorem h134 : CtsOk Try.prog ct134 := ⟨k162, k163, trivial⟩
theorem l134_0 : LpsOk (cfgT Try.prog (look? tb134) (look? ct134) (look? wts) (([] : List (Nat × Bool)).map (·.1))) (allL tb134) [] := trivial
theorem l134_1 : LpsOk (cfgT Try.prog (look? tb134) (look? ct134) (look? wts) (([] : List (Nat × Bool)).map (·.1))) (allL tb134) [(1008576, ⟨L134_1008576p, L134_1008576o, L134_1008576⟩)] := addLoop (H := hn) (n := 60) (live := [1, 3, 1008576]) (b := c134L0) (ps := L134_1008576p) (os := L134_1008576o) (st := L134_1008576t) h134 wts_ok l134_0 (by kernel_rfl) (by kernel_rfl) (fun x => by kernel_rfl)
noncomputable def K134 : Ctr := ⟨.cons (sSpec) (.nil), .cons (.b) (.nil), [(true, 1)], [(false, 1)], [], F134⟩
theorem k134 : CtrOk Try.prog 134 K134 := addFun (H := hn) (n := 60) orders td134 h134 wts_ok l134_1 rfl rfl (fun x => by kernel_rfl)
def tb66 : List (Nat × CF) := [(66, c66)]
theorem td66 : Tied Try.prog tb66 := ⟨⟨_, _, Try.func66, t66⟩, trivial⟩
noncomputable def ct66 : List (Nat × Ctr) := [(33, K33), (97, K97)]
theorem h66 : CtsOk Try.prog ct66 := ⟨k33, k97, trivial⟩
theorem l66_0 : LpsOk (cfgT Try.prog (look? tb66) (look? ct66) (look? wts) (([] : List (Nat × Bool)).map (·.1))) (allL tb66) [] := trivial
theorem l66_1 : LpsOk (cfgT Try.prog (look? tb66) (look? ct66) (look? wts) (([] : List (Nat × Bool)).map (·.1))) (allL tb66) [(1004225, ⟨L66_1004225p, L66_1004225o, L66_1004225⟩)] := addLoop (H := hn) (n := 60) (live := [1, 5, 7, 10, 11, 12, 17, 18, 19, 1004225]) (b := c66L0) (ps := L66_1004225p) (os := L66_1004225o) (st := L66_1004225t) h66 wts_ok l66_0 (by kernel_rfl) (by kernel_rfl) (fun x => match x with | .inl x => (by kernel_rfl) | .inr (x) => (by kernel_rfl))
theorem l66_2 : LpsOk (cfgT Try.prog (look? tb66) (look? ct66) (look? wts) (([] : List (Nat × Bool)).map (·.1))) (allL tb66) [(1004224, ⟨L66_1004224p, L66_1004224o, L66_1004224⟩), (1004225, ⟨L66_1004225p, L66_1004225o, L66_1004225⟩)] := addLoop (H := hn) (n := 60) (live := [1, 5, 10, 11, 12, 1004224]) (b := c66L1) (ps := L66_1004224p) (os := L66_1004224o) (st := L66_1004224t) h66 wts_ok l66_1 (by kernel_rfl) (by kernel_rfl) (fun x => match x with | .inl x => (by kernel_rfl) | .inr (x) => (by kernel_rfl))
noncomputable def K66 : Ctr := ⟨.cons (.row (sRun)) (.cons (.i .i64) (.nil)), .cons (.row (sPlace)) (.nil), [(false, 1), (false, 1)], [(false, 1)], [], F66⟩
theorem k66 : CtrOk Try.prog 66 K66 := addFun (H := hn) (n := 60) orders td66 h66 wts_ok l66_2 rfl rfl (fun x => by kernel_rfl)
def tb82 : List (Nat × CF) := [(82, c82)]
theorem td82 : Tied Try.prog tb82 := ⟨⟨_, _, Try.func82, t82⟩, trivial⟩
noncomputable def ct82 : List (Nat × Ctr) := [(108, K108), (109, K109)]
theorem h82 : CtsOk Try.prog ct82 := ⟨k108, k109, trivial⟩
theorem l82_0 : LpsOk (cfgT Try.prog (look? tb82) (look? ct82) (look? wts) (([] : List (Nat × Bool)).map (·.1))) (allL tb82) [] := trivial
theorem l82_1 : LpsOk (cfgT Try.prog (look? tb82) (look? ct82) (look? wts) (([] : List (Nat × Bool)).map (·.1))) (allL tb82) [(1005249, ⟨L82_1005249p, L82_1005249o, L82_1005249⟩)] := addLoop (H := hn) (n := 60) (live := [0, 1, 5, 6, 7, 1005249]) (b := c82L0) (ps := L82_1005249p) (os := L82_1005249o) (st := L82_1005249t) h82 wts_ok l82_0 (by kernel_rfl) (by kernel_rfl) (fun x => match x with | .inl x => (by kernel_rfl) | .inr (x) => (by kernel_rfl))
theorem l82_2 : LpsOk (cfgT Try.prog (look? tb82) (look? ct82) (look? wts) (([] : List (Nat × Bool)).map (·.1))) (allL tb82) [(1005248, ⟨L82_1005248p, L82_1005248o, L82_1005248⟩), (1005249, ⟨L82_1005249p, L82_1005249o, L82_1005249⟩)] := addLoop (H := hn) (n := 60) (live := [0, 1, 5, 6, 1005248]) (b := c82L1) (ps := L82_1005248p) (os := L82_1005248o) (st := L82_1005248t) h82 wts_ok l82_1 (by kernel_rfl) (by kernel_rfl) (fun x => match x with | .inl x => (by kernel_rfl) | .inr (x) => (by kernel_rfl))
noncomputable def K82 : Ctr := ⟨.cons (.row (sRun)) (.cons (.i .i64) (.nil)), .cons (.row (sPlace)) (.nil), [(false, 1), (false, 1)], [(false, 1)], [], F82⟩
theorem k82 : CtrOk Try.prog 82 K82 := addFun (H := hn) (n := 60) orders td82 h82 wts_ok l82_2 rfl rfl (fun x => by kernel_rfl)
def tb53 : List (Nat × CF) := [(53, c53)]
theorem td53 : Tied Try.prog tb53 := ⟨⟨_, _, Try.func53, t53⟩, trivial⟩
noncomputable def ct53 : List (Nat × Ctr) := [(86, K86)]
theorem h53 : CtsOk Try.prog ct53 := ⟨k86, trivial⟩
theorem l53_0 : LpsOk (cfgT Try.prog (look? tb53) (look? ct53) (look? wts) (([] : List (Nat × Bool)).map (·.1))) (allL tb53) [] := trivial
theorem l53_1 : LpsOk (cfgT Try.prog (look? tb53) (look? ct53) (look? wts) (([] : List (Nat × Bool)).map (·.1))) (allL tb53) [(1003392, ⟨L53_1003392p, L53_1003392o, L53_1003392⟩)] := addLoop (H := hn) (n := 60) (live := [2, 3, 5, 1003392]) (b := c53L0) (ps := L53_1003392p) (os := L53_1003392o) (st := L53_1003392t) h53 wts_ok l53_0 (by kernel_rfl) (by kernel_rfl) (fun x => by kernel_rfl)
noncomputable def K53 : Ctr := ⟨.cons (sRun) (.cons (sRun) (.nil)), .cons (.b) (.nil), [(true, 5), (true, 5)], [(false, 1)], [], F53⟩
theorem k53 : CtrOk Try.prog 53 K53 := addFun (H := hn) (n := 60) orders td53 h53 wts_ok l53_1 rfl rfl (fun x => by kernel_rfl)
def tb105 : List (Nat × CF) := [(105, c105), (132, c132), (129, c129), (160, c160)]
theorem td105 : Tied Try.prog tb105 := ⟨⟨_, _, Try.func105, t105⟩, ⟨_, _, Try.func132, t132⟩, ⟨_, _, Try.func129, t129⟩, ⟨_, _, Try.func160, t160⟩, trivial⟩
noncomputable def ct105 : List (Nat × Ctr) := [(131, K131)]
theorem h105 : CtsOk Try.prog ct105 := ⟨k131, trivial⟩
theorem l105_0 : LpsOk (cfgT Try.prog (look? tb105) (look? ct105) (look? wts) (([] : List (Nat × Bool)).map (·.1))) (allL tb105) [] := trivial
theorem l105_1 : LpsOk (cfgT Try.prog (look? tb105) (look? ct105) (look? wts) (([] : List (Nat × Bool)).map (·.1))) (allL tb105) [(1010240, ⟨L105_1010240p, L105_1010240o, L105_1010240⟩)] := addLoop (H := hn) (n := 60) (live := [0, 1, 7, 8, 1010240]) (b := c160L0) (ps := L105_1010240p) (os := L105_1010240o) (st := L105_1010240t) h105 wts_ok l105_0 (by kernel_rfl) (by kernel_rfl) (fun x => by kernel_rfl)
noncomputable def K105 : Ctr := ⟨.cons (sRun) (.cons (.row (.i .u8)) (.nil)), .cons (.b) (.nil), [(true, 5), (false, 1)], [(false, 1)], [], F105⟩
theorem k105 : CtrOk Try.prog 105 K105 := addFun (H := hn) (n := 60) orders td105 h105 wts_ok l105_1 rfl rfl (fun x => by kernel_rfl)
def tb110 : List (Nat × CF) := [(110, c110)]
theorem td110 : Tied Try.prog tb110 := ⟨⟨_, _, Try.func110, t110⟩, trivial⟩
noncomputable def ct110 : List (Nat × Ctr) := [(81, K81), (134, K134), (135, K135), (136, K136)]
theorem h110 : CtsOk Try.prog ct110 := ⟨k81, k134, k135, k136, trivial⟩
theorem l110_0 : LpsOk (cfgT Try.prog (look? tb110) (look? ct110) (look? wts) (([] : List (Nat × Bool)).map (·.1))) (allL tb110) [] := trivial
theorem l110_1 : LpsOk (cfgT Try.prog (look? tb110) (look? ct110) (look? wts) (([] : List (Nat × Bool)).map (·.1))) (allL tb110) [(1007040, ⟨L110_1007040p, L110_1007040o, L110_1007040⟩)] := addLoop (H := hn) (n := 60) (live := [1, 3, 1007040]) (b := c110L0) (ps := L110_1007040p) (os := L110_1007040o) (st := L110_1007040t) h110 wts_ok l110_0 (by kernel_rfl) (by kernel_rfl) (fun x => by kernel_rfl)
noncomputable def K110 : Ctr := ⟨.cons (sRun) (.nil), .cons (.b) (.nil), [(true, 5)], [(false, 1)], [], F110⟩
theorem k110 : CtrOk Try.prog 110 K110 := addFun (H := hn) (n := 60) orders td110 h110 wts_ok l110_1 rfl rfl (fun x => by kernel_rfl)
def tb50 : List (Nat × CF) := [(50, c50)]
theorem td50 : Tied Try.prog tb50 := ⟨⟨_, _, Try.func50, t50⟩, trivial⟩
noncomputable def ct50 : List (Nat × Ctr) := [(53, K53)]
theorem h50 : CtsOk Try.prog ct50 := ⟨k53, trivial⟩
theorem l50_0 : LpsOk (cfgT Try.prog (look? tb50) (look? ct50) (look? wts) (([] : List (Nat × Bool)).map (·.1))) (allL tb50) [] := trivial
theorem l50_1 : LpsOk (cfgT Try.prog (look? tb50) (look? ct50) (look? wts) (([] : List (Nat × Bool)).map (·.1))) (allL tb50) [(1003200, ⟨L50_1003200p, L50_1003200o, L50_1003200⟩)] := addLoop (H := hn) (n := 60) (live := [0, 1, 5, 1003200]) (b := c50L0) (ps := L50_1003200p) (os := L50_1003200o) (st := L50_1003200t) h50 wts_ok l50_0 (by kernel_rfl) (by kernel_rfl) (fun x => by kernel_rfl)
noncomputable def K50 : Ctr := ⟨.cons (.row (sRun)) (.cons (.row (sRun)) (.nil)), .cons (.b) (.nil), [(false, 1), (false, 1)], [(false, 1)], [], F50⟩
theorem k50 : CtrOk Try.prog 50 K50 := addFun (H := hn) (n := 60) orders td50 h50 wts_ok l50_1 rfl rfl (fun x => by kernel_rfl)
def tb104 : List (Nat × CF) := [(104, c104), (130, c130), (129, c129), (160, c160)]
theorem td104 : Tied Try.prog tb104 := ⟨⟨_, _, Try.func104, t104⟩, ⟨_, _, Try.func130, t130⟩, ⟨_, _, Try.func129, t129⟩, ⟨_, _, Try.func160, t160⟩, trivial⟩
noncomputable def ct104 : List (Nat × Ctr) := [(131, K131)]
theorem h104 : CtsOk Try.prog ct104 := ⟨k131, trivial⟩
theorem l104_0 : LpsOk (cfgT Try.prog (look? tb104) (look? ct104) (look? wts) (([] : List (Nat × Bool)).map (·.1))) (allL tb104) [] := trivial
theorem l104_1 : LpsOk (cfgT Try.prog (look? tb104) (look? ct104) (look? wts) (([] : List (Nat × Bool)).map (·.1))) (allL tb104) [(1010240, ⟨L104_1010240p, L104_1010240o, L104_1010240⟩)] := addLoop (H := hn) (n := 60) (live := [0, 1, 7, 8, 1010240]) (b := c160L0) (ps := L104_1010240p) (os := L104_1010240o) (st := L104_1010240t) h104 wts_ok l104_0 (by kernel_rfl) (by kernel_rfl) (fun x => by kernel_rfl)
noncomputable def K104 : Ctr := ⟨.cons (sRun) (.cons (.row (.i .u8)) (.nil)), .cons (.b) (.nil), [(true, 5), (false, 1)], [(false, 1)], [], F104⟩
theorem k104 : CtrOk Try.prog 104 K104 := addFun (H := hn) (n := 60) orders td104 h104 wts_ok l104_1 rfl rfl (fun x => by kernel_rfl)
def tb83 : List (Nat × CF) := [(83, c83)]
theorem td83 : Tied Try.prog tb83 := ⟨⟨_, _, Try.func83, t83⟩, trivial⟩
noncomputable def ct83 : List (Nat × Ctr) := [(110, K110), (111, K111)]
theorem h83 : CtsOk Try.prog ct83 := ⟨k110, k111, trivial⟩
theorem l83_0 : LpsOk (cfgT Try.prog (look? tb83) (look? ct83) (look? wts) (([] : List (Nat × Bool)).map (·.1))) (allL tb83) [] := trivial
theorem l83_1 : LpsOk (cfgT Try.prog (look? tb83) (look? ct83) (look? wts) (([] : List (Nat × Bool)).map (·.1))) (allL tb83) [(1005313, ⟨L83_1005313p, L83_1005313o, L83_1005313⟩)] := addLoop (H := hn) (n := 60) (live := [0, 3, 4, 1005313]) (b := c83L0) (ps := L83_1005313p) (os := L83_1005313o) (st := L83_1005313t) h83 wts_ok l83_0 (by kernel_rfl) (by kernel_rfl) (fun x => by kernel_rfl)
theorem l83_2 : LpsOk (cfgT Try.prog (look? tb83) (look? ct83) (look? wts) (([] : List (Nat × Bool)).map (·.1))) (allL tb83) [(1005312, ⟨L83_1005312p, L83_1005312o, L83_1005312⟩), (1005313, ⟨L83_1005313p, L83_1005313o, L83_1005313⟩)] := addLoop (H := hn) (n := 60) (live := [0, 3, 1005312]) (b := c83L1) (ps := L83_1005312p) (os := L83_1005312o) (st := L83_1005312t) h83 wts_ok l83_1 (by kernel_rfl) (by kernel_rfl) (fun x => by kernel_rfl)
noncomputable def K83 : Ctr := ⟨.cons (.row (sRun)) (.nil), .cons (.b) (.nil), [(false, 1)], [(false, 1)], [], F83⟩
theorem k83 : CtrOk Try.prog 83 K83 := addFun (H := hn) (n := 60) orders td83 h83 wts_ok l83_2 rfl rfl (fun x => by kernel_rfl)
def tb72 : List (Nat × CF) := [(72, c72)]
theorem td72 : Tied Try.prog tb72 := ⟨⟨_, _, Try.func72, t72⟩, trivial⟩
noncomputable def ct72 : List (Nat × Ctr) := [(103, K103), (104, K104), (105, K105)]
theorem h72 : CtsOk Try.prog ct72 := ⟨k103, k104, k105, trivial⟩
theorem l72_0 : LpsOk (cfgT Try.prog (look? tb72) (look? ct72) (look? wts) (([] : List (Nat × Bool)).map (·.1))) (allL tb72) [] := trivial
theorem l72_1 : LpsOk (cfgT Try.prog (look? tb72) (look? ct72) (look? wts) (([] : List (Nat × Bool)).map (·.1))) (allL tb72) [(1004608, ⟨L72_1004608p, L72_1004608o, L72_1004608⟩)] := addLoop (H := hn) (n := 60) (live := [1, 11, 12, 13, 1004608]) (b := c72L0) (ps := L72_1004608p) (os := L72_1004608o) (st := L72_1004608t) h72 wts_ok l72_0 (by kernel_rfl) (by kernel_rfl) (fun x => by kernel_rfl)
noncomputable def K72 : Ctr := ⟨.cons (sRun) (.nil), .cons (.b) (.nil), [(true, 5)], [(false, 1)], [], F72⟩
theorem k72 : CtrOk Try.prog 72 K72 := addFun (H := hn) (n := 60) orders td72 h72 wts_ok l72_1 rfl rfl (fun x => by kernel_rfl)
def tb49 : List (Nat × CF) := [(49, c49)]
theorem td49 : Tied Try.prog tb49 := ⟨⟨_, _, Try.func49, t49⟩, trivial⟩
noncomputable def ct49 : List (Nat × Ctr) := [(83, K83)]
theorem h49 : CtsOk Try.prog ct49 := ⟨k83, trivial⟩
theorem l49_0 : LpsOk (cfgT Try.prog (look? tb49) (look? ct49) (look? wts) (([] : List (Nat × Bool)).map (·.1))) (allL tb49) [] := trivial
noncomputable def K49 : Ctr := ⟨.cons (.row (sRun)) (.nil), .cons (.i .i64) (.nil), [(false, 1)], [(false, 1)], [], F49⟩
theorem k49 : CtrOk Try.prog 49 K49 := addFun (H := hn) (n := 60) orders td49 h49 wts_ok l49_0 rfl rfl (fun x => by kernel_rfl)
def tb43 : List (Nat × CF) := [(43, c43)]
theorem td43 : Tied Try.prog tb43 := ⟨⟨_, _, Try.func43, t43⟩, trivial⟩
noncomputable def ct43 : List (Nat × Ctr) := [(49, K49), (79, K79)]
theorem h43 : CtsOk Try.prog ct43 := ⟨k49, k79, trivial⟩
theorem l43_0 : LpsOk (cfgT Try.prog (look? tb43) (look? ct43) (look? wts) (([] : List (Nat × Bool)).map (·.1))) (allL tb43) [] := trivial
noncomputable def K43 : Ctr := ⟨.cons (.row (sRun)) (.cons (.s) (.nil)), .cons (.i .i64) (.cons (.b) (.cons (.i .i64) (.nil))), [(false, 1), (false, 1)], [(false, 1), (false, 1), (false, 1)], [], F43⟩
theorem k43 : CtrOk Try.prog 43 K43 := addFun (H := hn) (n := 60) orders td43 h43 wts_ok l43_0 rfl rfl (fun x => by kernel_rfl)
def tb44 : List (Nat × CF) := [(44, c44)]
theorem td44 : Tied Try.prog tb44 := ⟨⟨_, _, Try.func44, t44⟩, trivial⟩
noncomputable def ct44 : List (Nat × Ctr) := [(49, K49), (80, K80)]
theorem h44 : CtsOk Try.prog ct44 := ⟨k49, k80, trivial⟩
theorem l44_0 : LpsOk (cfgT Try.prog (look? tb44) (look? ct44) (look? wts) (([] : List (Nat × Bool)).map (·.1))) (allL tb44) [] := trivial
noncomputable def K44 : Ctr := ⟨.cons (.row (sRun)) (.nil), .cons (sPlace) (.cons (.b) (.cons (.i .i64) (.nil))), [(false, 1)], [(true, 3), (false, 1), (false, 1)], [], F44⟩
theorem k44 : CtrOk Try.prog 44 K44 := addFun (H := hn) (n := 60) orders td44 h44 wts_ok l44_0 rfl rfl (fun x => by kernel_rfl)
def tb45 : List (Nat × CF) := [(45, c45)]
theorem td45 : Tied Try.prog tb45 := ⟨⟨_, _, Try.func45, t45⟩, trivial⟩
noncomputable def ct45 : List (Nat × Ctr) := [(49, K49), (81, K81), (82, K82)]
theorem h45 : CtsOk Try.prog ct45 := ⟨k49, k81, k82, trivial⟩
theorem l45_0 : LpsOk (cfgT Try.prog (look? tb45) (look? ct45) (look? wts) (([] : List (Nat × Bool)).map (·.1))) (allL tb45) [] := trivial
noncomputable def K45 : Ctr := ⟨.cons (.row (sRun)) (.cons (.i .i64) (.nil)), .cons (.row (sPlace)) (.cons (.i .i64) (.nil)), [(false, 1), (false, 1)], [(false, 1), (false, 1)], [], F45⟩
theorem k45 : CtrOk Try.prog 45 K45 := addFun (H := hn) (n := 60) orders td45 h45 wts_ok l45_0 rfl rfl (fun x => by kernel_rfl)
def tb46 : List (Nat × CF) := [(46, c46)]
theorem td46 : Tied Try.prog tb46 := ⟨⟨_, _, Try.func46, t46⟩, trivial⟩
noncomputable def ct46 : List (Nat × Ctr) := [(49, K49)]
theorem h46 : CtsOk Try.prog ct46 := ⟨k49, trivial⟩
theorem l46_0 : LpsOk (cfgT Try.prog (look? tb46) (look? ct46) (look? wts) (([] : List (Nat × Bool)).map (·.1))) (allL tb46) [] := trivial
theorem l46_1 : LpsOk (cfgT Try.prog (look? tb46) (look? ct46) (look? wts) (([] : List (Nat × Bool)).map (·.1))) (allL tb46) [(1002945, ⟨L46_1002945p, L46_1002945o, L46_1002945⟩)] := addLoop (H := hn) (n := 60) (live := [0, 6, 7, 8, 9, 1002945]) (b := c46L0) (ps := L46_1002945p) (os := L46_1002945o) (st := L46_1002945t) h46 wts_ok l46_0 (by kernel_rfl) (by kernel_rfl) (fun x => by kernel_rfl)
theorem l46_2 : LpsOk (cfgT Try.prog (look? tb46) (look? ct46) (look? wts) (([] : List (Nat × Bool)).map (·.1))) (allL tb46) [(1002944, ⟨L46_1002944p, L46_1002944o, L46_1002944⟩), (1002945, ⟨L46_1002945p, L46_1002945o, L46_1002945⟩)] := addLoop (H := hn) (n := 60) (live := [0, 6, 7, 8, 1002944]) (b := c46L1) (ps := L46_1002944p) (os := L46_1002944o) (st := L46_1002944t) h46 wts_ok l46_1 (by kernel_rfl) (by kernel_rfl) (fun x => by kernel_rfl)
noncomputable def K46 : Ctr := ⟨.cons (.row (sRun)) (.nil), .cons (.i .i64) (.cons (.b) (.cons (.i .i64) (.nil))), [(false, 1)], [(false, 1), (false, 1), (false, 1)], [], F46⟩
theorem k46 : CtrOk Try.prog 46 K46 := addFun (H := hn) (n := 60) orders td46 h46 wts_ok l46_2 rfl rfl (fun x => by kernel_rfl)
def tb47 : List (Nat × CF) := [(47, c47)]
theorem td47 : Tied Try.prog tb47 := ⟨⟨_, _, Try.func47, t47⟩, trivial⟩
noncomputable def ct47 : List (Nat × Ctr) := [(49, K49)]
theorem h47 : CtsOk Try.prog ct47 := ⟨k49, trivial⟩
theorem l47_0 : LpsOk (cfgT Try.prog (look? tb47) (look? ct47) (look? wts) (([] : List (Nat × Bool)).map (·.1))) (allL tb47) [] := trivial
theorem l47_1 : LpsOk (cfgT Try.prog (look? tb47) (look? ct47) (look? wts) (([] : List (Nat × Bool)).map (·.1))) (allL tb47) [(1003009, ⟨L47_1003009p, L47_1003009o, L47_1003009⟩)] := addLoop (H := hn) (n := 60) (live := [0, 5, 6, 7, 1003009]) (b := c47L0) (ps := L47_1003009p) (os := L47_1003009o) (st := L47_1003009t) h47 wts_ok l47_0 (by kernel_rfl) (by kernel_rfl) (fun x => by kernel_rfl)
theorem l47_2 : LpsOk (cfgT Try.prog (look? tb47) (look? ct47) (look? wts) (([] : List (Nat × Bool)).map (·.1))) (allL tb47) [(1003008, ⟨L47_1003008p, L47_1003008o, L47_1003008⟩), (1003009, ⟨L47_1003009p, L47_1003009o, L47_1003009⟩)] := addLoop (H := hn) (n := 60) (live := [0, 5, 6, 1003008]) (b := c47L1) (ps := L47_1003008p) (os := L47_1003008o) (st := L47_1003008t) h47 wts_ok l47_1 (by kernel_rfl) (by kernel_rfl) (fun x => by kernel_rfl)
noncomputable def K47 : Ctr := ⟨.cons (.row (sRun)) (.nil), .cons (.i .i64) (.cons (.i .i64) (.nil)), [(false, 1)], [(false, 1), (false, 1)], [], F47⟩
theorem k47 : CtrOk Try.prog 47 K47 := addFun (H := hn) (n := 60) orders td47 h47 wts_ok l47_2 rfl rfl (fun x => by kernel_rfl)
def tb36 : List (Nat × CF) := [(36, c36)]
theorem td36 : Tied Try.prog tb36 := ⟨⟨_, _, Try.func36, t36⟩, trivial⟩
noncomputable def ct36 : List (Nat × Ctr) := [(70, K70), (71, K71), (72, K72)]
theorem h36 : CtsOk Try.prog ct36 := ⟨k70, k71, k72, trivial⟩
theorem l36_0 : LpsOk (cfgT Try.prog (look? tb36) (look? ct36) (look? wts) (([] : List (Nat × Bool)).map (·.1))) (allL tb36) [] := trivial
theorem l36_1 : LpsOk (cfgT Try.prog (look? tb36) (look? ct36) (look? wts) (([] : List (Nat × Bool)).map (·.1))) (allL tb36) [(1002304, ⟨L36_1002304p, L36_1002304o, L36_1002304⟩)] := addLoop (H := hn) (n := 60) (live := [1, 43, 44, 45, 1002304]) (b := c36L0) (ps := L36_1002304p) (os := L36_1002304o) (st := L36_1002304t) h36 wts_ok l36_0 (by kernel_rfl) (by kernel_rfl) (fun x => by kernel_rfl)
noncomputable def K36 : Ctr := ⟨.cons (sRun) (.nil), .cons (.i .i64) (.nil), [(true, 5)], [(false, 1)], [], F36⟩
theorem k36 : CtrOk Try.prog 36 K36 := addFun (H := hn) (n := 60) orders td36 h36 wts_ok l36_1 rfl rfl (fun x => by kernel_rfl)
def tb42 : List (Nat × CF) := [(42, c42)]
theorem td42 : Tied Try.prog tb42 := ⟨⟨_, _, Try.func42, t42⟩, trivial⟩
noncomputable def ct42 : List (Nat × Ctr) := [(49, K49), (78, K78)]
theorem h42 : CtsOk Try.prog ct42 := ⟨k49, k78, trivial⟩
theorem l42_0 : LpsOk (cfgT Try.prog (look? tb42) (look? ct42) (look? wts) (([] : List (Nat × Bool)).map (·.1))) (allL tb42) [] := trivial
noncomputable def K42 : Ctr := ⟨.cons (.row (sRun)) (.cons (.i .i64) (.nil)), .cons (.i .i64) (.cons (.b) (.cons (.i .i64) (.nil))), [(false, 1), (false, 1)], [(false, 1), (false, 1), (false, 1)], [], F42⟩
theorem k42 : CtrOk Try.prog 42 K42 := addFun (H := hn) (n := 60) orders td42 h42 wts_ok l42_0 rfl rfl (fun x => by kernel_rfl)
def tb40 : List (Nat × CF) := [(40, c40), (75, c75), (74, c74), (106, c106), (76, c76)]
theorem td40 : Tied Try.prog tb40 := ⟨⟨_, _, Try.func40, t40⟩, ⟨_, _, Try.func75, t75⟩, ⟨_, _, Try.func74, t74⟩, ⟨_, _, Try.func106, t106⟩, ⟨_, _, Try.func76, t76⟩, trivial⟩
noncomputable def ct40 : List (Nat × Ctr) := [(36, K36)]
theorem h40 : CtsOk Try.prog ct40 := ⟨k36, trivial⟩
theorem l40_0 : LpsOk (cfgT Try.prog (look? tb40) (look? ct40) (look? wts) (([] : List (Nat × Bool)).map (·.1))) (allL tb40) [] := trivial
theorem l40_1 : LpsOk (cfgT Try.prog (look? tb40) (look? ct40) (look? wts) (([] : List (Nat × Bool)).map (·.1))) (allL tb40) [(1002561, ⟨L40_1002561p, L40_1002561o, L40_1002561⟩)] := addLoop (H := hn) (n := 60) (live := [0, 3, 4, 14, 15, 16, 47, 48, 49, 1002561]) (b := c40L0) (ps := L40_1002561p) (os := L40_1002561o) (st := L40_1002561t) h40 wts_ok l40_0 (by kernel_rfl) (by kernel_rfl) (fun x => by kernel_rfl)
theorem l40_2 : LpsOk (cfgT Try.prog (look? tb40) (look? ct40) (look? wts) (([] : List (Nat × Bool)).map (·.1))) (allL tb40) [(1006784, ⟨L40_1006784p, L40_1006784o, L40_1006784⟩), (1002561, ⟨L40_1002561p, L40_1002561o, L40_1002561⟩)] := addLoop (H := hn) (n := 60) (live := [0, 1, 7, 8, 1006784]) (b := c106L0) (ps := L40_1006784p) (os := L40_1006784o) (st := L40_1006784t) h40 wts_ok l40_1 (by kernel_rfl) (by kernel_rfl) (fun x => by kernel_rfl)
theorem l40_3 : LpsOk (cfgT Try.prog (look? tb40) (look? ct40) (look? wts) (([] : List (Nat × Bool)).map (·.1))) (allL tb40) [(1002560, ⟨L40_1002560p, L40_1002560o, L40_1002560⟩), (1006784, ⟨L40_1006784p, L40_1006784o, L40_1006784⟩), (1002561, ⟨L40_1002561p, L40_1002561o, L40_1002561⟩)] := addLoop (H := hn) (n := 60) (live := [0, 3, 4, 14, 15, 16, 1002560]) (b := c40L1) (ps := L40_1002560p) (os := L40_1002560o) (st := L40_1002560t) h40 wts_ok l40_2 (by kernel_rfl) (by kernel_rfl) (fun x => by kernel_rfl)
noncomputable def K40 : Ctr := ⟨.cons (.row (sRun)) (.nil), .cons (.i .i64) (.nil), [(false, 1)], [(false, 1)], [], F40⟩
theorem k40 : CtrOk Try.prog 40 K40 := addFun (H := hn) (n := 60) orders td40 h40 wts_ok l40_3 rfl rfl (fun x => by kernel_rfl)
def tb39 : List (Nat × CF) := [(39, c39)]
theorem td39 : Tied Try.prog tb39 := ⟨⟨_, _, Try.func39, t39⟩, trivial⟩
noncomputable def ct39 : List (Nat × Ctr) := [(40, K40)]
theorem h39 : CtsOk Try.prog ct39 := ⟨k40, trivial⟩
theorem l39_0 : LpsOk (cfgT Try.prog (look? tb39) (look? ct39) (look? wts) (([] : List (Nat × Bool)).map (·.1))) (allL tb39) [] := trivial
theorem l39_1 : LpsOk (cfgT Try.prog (look? tb39) (look? ct39) (look? wts) (([] : List (Nat × Bool)).map (·.1))) (allL tb39) [(1002496, ⟨L39_1002496p, L39_1002496o, L39_1002496⟩)] := addLoop (H := hn) (n := 60) (live := [1, 15, 16, 17, 1002496]) (b := c39L0) (ps := L39_1002496p) (os := L39_1002496o) (st := L39_1002496t) h39 wts_ok l39_0 (by kernel_rfl) (by kernel_rfl) (fun x => by kernel_rfl)
noncomputable def K39 : Ctr := ⟨.cons (.row (sRun)) (.cons (.s) (.nil)), .cons (.i .i64) (.cons (.b) (.cons (.i .i64) (.nil))), [(false, 1), (false, 1)], [(false, 1), (false, 1), (false, 1)], [], F39⟩
theorem k39 : CtrOk Try.prog 39 K39 := addFun (H := hn) (n := 60) orders td39 h39 wts_ok l39_1 rfl rfl (fun x => by kernel_rfl)
def tb35 : List (Nat × CF) := [(35, c35)]
theorem td35 : Tied Try.prog tb35 := ⟨⟨_, _, Try.func35, t35⟩, trivial⟩
noncomputable def ct35 : List (Nat × Ctr) := [(40, K40)]
theorem h35 : CtsOk Try.prog ct35 := ⟨k40, trivial⟩
theorem l35_0 : LpsOk (cfgT Try.prog (look? tb35) (look? ct35) (look? wts) (([] : List (Nat × Bool)).map (·.1))) (allL tb35) [] := trivial
theorem l35_1 : LpsOk (cfgT Try.prog (look? tb35) (look? ct35) (look? wts) (([] : List (Nat × Bool)).map (·.1))) (allL tb35) [(1002241, ⟨L35_1002241p, L35_1002241o, L35_1002241⟩)] := addLoop (H := hn) (n := 60) (live := [2, 6, 7, 8, 10, 19, 20, 21, 26, 27, 28, 1002241]) (b := c35L0) (ps := L35_1002241p) (os := L35_1002241o) (st := L35_1002241t) h35 wts_ok l35_0 (by kernel_rfl) (by kernel_rfl) (fun x => by kernel_rfl)
theorem l35_2 : LpsOk (cfgT Try.prog (look? tb35) (look? ct35) (look? wts) (([] : List (Nat × Bool)).map (·.1))) (allL tb35) [(1002240, ⟨L35_1002240p, L35_1002240o, L35_1002240⟩), (1002241, ⟨L35_1002241p, L35_1002241o, L35_1002241⟩)] := addLoop (H := hn) (n := 60) (live := [2, 6, 7, 8, 19, 20, 21, 1002240]) (b := c35L1) (ps := L35_1002240p) (os := L35_1002240o) (st := L35_1002240t) h35 wts_ok l35_1 (by kernel_rfl) (by kernel_rfl) (fun x => by kernel_rfl)
noncomputable def K35 : Ctr := ⟨.cons (.row (sRun)) (.nil), .cons (sPlace) (.cons (.b) (.cons (.i .i64) (.nil))), [(false, 1)], [(true, 3), (false, 1), (false, 1)], [], F35⟩
theorem k35 : CtrOk Try.prog 35 K35 := addFun (H := hn) (n := 60) orders td35 h35 wts_ok l35_2 rfl rfl (fun x => by kernel_rfl)
def tb30 : List (Nat × CF) := [(30, c30)]
theorem td30 : Tied Try.prog tb30 := ⟨⟨_, _, Try.func30, t30⟩, trivial⟩
noncomputable def ct30 : List (Nat × Ctr) := [(40, K40), (66, K66)]
theorem h30 : CtsOk Try.prog ct30 := ⟨k40, k66, trivial⟩
theorem l30_0 : LpsOk (cfgT Try.prog (look? tb30) (look? ct30) (look? wts) (([] : List (Nat × Bool)).map (·.1))) (allL tb30) [] := trivial
noncomputable def K30 : Ctr := ⟨.cons (.row (sRun)) (.cons (.i .i64) (.nil)), .cons (.row (sPlace)) (.cons (.i .i64) (.nil)), [(false, 1), (false, 1)], [(false, 1), (false, 1)], [], F30⟩
theorem k30 : CtrOk Try.prog 30 K30 := addFun (H := hn) (n := 60) orders td30 h30 wts_ok l30_0 rfl rfl (fun x => by kernel_rfl)
def tb31 : List (Nat × CF) := [(31, c31)]
theorem td31 : Tied Try.prog tb31 := ⟨⟨_, _, Try.func31, t31⟩, trivial⟩
noncomputable def ct31 : List (Nat × Ctr) := [(40, K40), (66, K66)]
theorem h31 : CtsOk Try.prog ct31 := ⟨k40, k66, trivial⟩
theorem l31_0 : LpsOk (cfgT Try.prog (look? tb31) (look? ct31) (look? wts) (([] : List (Nat × Bool)).map (·.1))) (allL tb31) [] := trivial
noncomputable def K31 : Ctr := ⟨.cons (.row (sRun)) (.nil), .cons (.i .i64) (.cons (.b) (.cons (.i .i64) (.nil))), [(false, 1)], [(false, 1), (false, 1), (false, 1)], [], F31⟩
theorem k31 : CtrOk Try.prog 31 K31 := addFun (H := hn) (n := 60) orders td31 h31 wts_ok l31_0 rfl rfl (fun x => by kernel_rfl)
def tb38 : List (Nat × CF) := [(38, c38)]
theorem td38 : Tied Try.prog tb38 := ⟨⟨_, _, Try.func38, t38⟩, trivial⟩
noncomputable def ct38 : List (Nat × Ctr) := [(40, K40)]
theorem h38 : CtsOk Try.prog ct38 := ⟨k40, trivial⟩
theorem l38_0 : LpsOk (cfgT Try.prog (look? tb38) (look? ct38) (look? wts) (([] : List (Nat × Bool)).map (·.1))) (allL tb38) [] := trivial
theorem l38_1 : LpsOk (cfgT Try.prog (look? tb38) (look? ct38) (look? wts) (([] : List (Nat × Bool)).map (·.1))) (allL tb38) [(1002433, ⟨L38_1002433p, L38_1002433o, L38_1002433⟩)] := addLoop (H := hn) (n := 60) (live := [5, 15, 16, 17, 22, 23, 24, 1002433]) (b := c38L0) (ps := L38_1002433p) (os := L38_1002433o) (st := L38_1002433t) h38 wts_ok l38_0 (by kernel_rfl) (by kernel_rfl) (fun x => by kernel_rfl)
theorem l38_2 : LpsOk (cfgT Try.prog (look? tb38) (look? ct38) (look? wts) (([] : List (Nat × Bool)).map (·.1))) (allL tb38) [(1002432, ⟨L38_1002432p, L38_1002432o, L38_1002432⟩), (1002433, ⟨L38_1002433p, L38_1002433o, L38_1002433⟩)] := addLoop (H := hn) (n := 60) (live := [5, 15, 16, 17, 1002432]) (b := c38L1) (ps := L38_1002432p) (os := L38_1002432o) (st := L38_1002432t) h38 wts_ok l38_1 (by kernel_rfl) (by kernel_rfl) (fun x => by kernel_rfl)
noncomputable def K38 : Ctr := ⟨.cons (.row (sRun)) (.nil), .cons (.i .i64) (.cons (.i .i64) (.nil)), [(false, 1)], [(false, 1), (false, 1)], [], F38⟩
theorem k38 : CtrOk Try.prog 38 K38 := addFun (H := hn) (n := 60) orders td38 h38 wts_ok l38_2 rfl rfl (fun x => by kernel_rfl)
def tb32 : List (Nat × CF) := [(32, c32), (67, c67), (68, c68)]
theorem td32 : Tied Try.prog tb32 := ⟨⟨_, _, Try.func32, t32⟩, ⟨_, _, Try.func67, t67⟩, ⟨_, _, Try.func68, t68⟩, trivial⟩
noncomputable def ct32 : List (Nat × Ctr) := [(40, K40), (69, K69)]
theorem h32 : CtsOk Try.prog ct32 := ⟨k40, k69, trivial⟩
theorem l32_0 : LpsOk (cfgT Try.prog (look? tb32) (look? ct32) (look? wts) (([] : List (Nat × Bool)).map (·.1))) (allL tb32) [] := trivial
theorem l32_1 : LpsOk (cfgT Try.prog (look? tb32) (look? ct32) (look? wts) (([] : List (Nat × Bool)).map (·.1))) (allL tb32) [(1004288, ⟨L32_1004288p, L32_1004288o, L32_1004288⟩)] := addLoop (H := hn) (n := 60) (live := [0, 1, 2, 8, 9, 10, 1004288]) (b := c67L0) (ps := L32_1004288p) (os := L32_1004288o) (st := L32_1004288t) h32 wts_ok l32_0 (by kernel_rfl) (by kernel_rfl) (fun x => by kernel_rfl)
noncomputable def K32 : Ctr := ⟨.cons (.row (sRun)) (.cons (.i .i64) (.nil)), .cons (.i .i64) (.cons (.b) (.cons (.i .i64) (.nil))), [(false, 1), (false, 1)], [(false, 1), (false, 1), (false, 1)], [], F32⟩
theorem k32 : CtrOk Try.prog 32 K32 := addFun (H := hn) (n := 60) orders td32 h32 wts_ok l32_1 rfl rfl (fun x => by kernel_rfl)
def tb9 : List (Nat × CF) := [(9, c9)]
theorem td9 : Tied Try.prog tb9 := ⟨⟨_, _, Try.func9, t9⟩, trivial⟩
noncomputable def ct9 : List (Nat × Ctr) := [(29, K29), (41, K41), (32, K32), (42, K42), (39, K39), (43, K43), (35, K35), (44, K44), (30, K30), (45, K45), (31, K31), (46, K46), (38, K38), (47, K47), (48, K48), (40, K40), (49, K49), (50, K50)]
theorem h9 : CtsOk Try.prog ct9 := ⟨k29, k41, k32, k42, k39, k43, k35, k44, k30, k45, k31, k46, k38, k47, k48, k40, k49, k50, trivial⟩
theorem l9_0 : LpsOk (cfgT Try.prog (look? tb9) (look? ct9) (look? wts) (([] : List (Nat × Bool)).map (·.1))) (allL tb9) [] := trivial
noncomputable def K9 : Ctr := ⟨.cons (.row (sRun)) (.cons (.i .i64) (.cons (.s) (.cons (.i .i64) (.nil)))), .cons (.b) (.nil), [(false, 1), (false, 1), (false, 1), (false, 1)], [(false, 1)], [], F9⟩
theorem k9 : CtrOk Try.prog 9 K9 := addFun (H := hn) (n := 60) orders td9 h9 wts_ok l9_0 rfl rfl (fun x => by kernel_rfl)
end Go.Proofs.Ytefehcmhdiifnaa.leaseTells.Code
