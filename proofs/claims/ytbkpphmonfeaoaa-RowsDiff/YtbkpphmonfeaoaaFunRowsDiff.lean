/- Their code computes it. -/
import Derived.Test.YtbkpphmonfeaoaaTieRowsDiff
import Derived.Test.YtbkpphmonfeaoaaDefRowsDiff
import Derived.KernelRfl
import Derived.Test.YtbkpphmonfeaoaaSrtRowsDiff
set_option maxRecDepth 100000
set_option linter.unusedVariables false
set_option linter.constructorNameAsVariable false
namespace Go.Proofs.Ytbkpphmonfeaoaa.rowsDiff.Code
open Go Go.Am
def tb12 : List (Nat × CF) := [(12, c12)]
theorem td12 : Tied Try.prog tb12 := ⟨⟨_, _, Try.func12, t12⟩, trivial⟩
noncomputable def ct12 : List (Nat × Ctr) := []
theorem h12 : CtsOk Try.prog ct12 := trivial
noncomputable abbrev gg12 : Cfg := cfgT Try.prog (look? tb12) (look? ct12) (look? wts) (([] : List (Nat × Bool)).map (·.1)) hn.kl hn.pf
theorem l12_0 : LpsOk gg12 (allL tb12) [] := trivial
noncomputable abbrev ee12_1 : Nat × Lps := (1000768, ⟨L12_1000768p, L12_1000768o, L12_1000768⟩)
theorem l12_1 : LpsOk gg12 (allL tb12) [ee12_1] := addLoop (H := hn) (n := 60) (live := [0, 3, 4, 1000768]) (b := c12L0) (ps := L12_1000768p) (os := L12_1000768o) (st := L12_1000768t) h12 wts_ok l12_0 (by kernel_rfl) (by kernel_rfl) (fun x => by kernel_rfl)
noncomputable def K12 : Ctr := ⟨.cons (.row (sPair)) (.nil), .cons (.b) (.nil), [(false, 1)], [(false, 1)], [], F12⟩
theorem k12 : CtrOk Try.prog 12 K12 := addFun (H := hn) (n := 60) orders td12 h12 wts_ok l12_1 rfl rfl (fun x => by kernel_rfl)
def tb13 : List (Nat × CF) := [(13, c13)]
theorem td13 : Tied Try.prog tb13 := ⟨⟨_, _, Try.func13, t13⟩, trivial⟩
noncomputable def ct13 : List (Nat × Ctr) := []
theorem h13 : CtsOk Try.prog ct13 := trivial
noncomputable abbrev gg13 : Cfg := cfgT Try.prog (look? tb13) (look? ct13) (look? wts) (([] : List (Nat × Bool)).map (·.1)) hn.kl hn.pf
theorem l13_0 : LpsOk gg13 (allL tb13) [] := trivial
noncomputable abbrev ee13_1 : Nat × Lps := (1000832, ⟨L13_1000832p, L13_1000832o, L13_1000832⟩)
theorem l13_1 : LpsOk gg13 (allL tb13) [ee13_1] := addLoop (H := hn) (n := 60) (live := [0, 3, 4, 1000832]) (b := c13L0) (ps := L13_1000832p) (os := L13_1000832o) (st := L13_1000832t) h13 wts_ok l13_0 (by kernel_rfl) (by kernel_rfl) (fun x => by kernel_rfl)
noncomputable def K13 : Ctr := ⟨.cons (.row (sOp)) (.nil), .cons (.b) (.nil), [(false, 1)], [(false, 1)], [], F13⟩
theorem k13 : CtrOk Try.prog 13 K13 := addFun (H := hn) (n := 60) orders td13 h13 wts_ok l13_1 rfl rfl (fun x => by kernel_rfl)
def tb24 : List (Nat × CF) := [(24, c24)]
theorem td24 : Tied Try.prog tb24 := ⟨⟨_, _, Try.func24, t24⟩, trivial⟩
noncomputable def ct24 : List (Nat × Ctr) := []
theorem h24 : CtsOk Try.prog ct24 := trivial
noncomputable abbrev gg24 : Cfg := cfgT Try.prog (look? tb24) (look? ct24) (look? wts) (([] : List (Nat × Bool)).map (·.1)) hn.kl hn.pf
theorem l24_0 : LpsOk gg24 (allL tb24) [] := trivial
noncomputable abbrev ee24_1 : Nat × Lps := (1001536, ⟨L24_1001536p, L24_1001536o, L24_1001536⟩)
theorem l24_1 : LpsOk gg24 (allL tb24) [ee24_1] := addLoop (H := hn) (n := 60) (live := [0, 5, 6, 7, 1001536]) (b := c24L0) (ps := L24_1001536p) (os := L24_1001536o) (st := L24_1001536t) h24 wts_ok l24_0 (by kernel_rfl) (by kernel_rfl) (fun x => by kernel_rfl)
noncomputable def K24 : Ctr := ⟨.cons (.row (sPair)) (.nil), .cons (.b) (.nil), [(false, 1)], [(false, 1)], [], F24⟩
theorem k24 : CtrOk Try.prog 24 K24 := addFun (H := hn) (n := 60) orders td24 h24 wts_ok l24_1 rfl rfl (fun x => by kernel_rfl)
def tb25 : List (Nat × CF) := [(25, c25)]
theorem td25 : Tied Try.prog tb25 := ⟨⟨_, _, Try.func25, t25⟩, trivial⟩
noncomputable def ct25 : List (Nat × Ctr) := []
theorem h25 : CtsOk Try.prog ct25 := trivial
noncomputable abbrev gg25 : Cfg := cfgT Try.prog (look? tb25) (look? ct25) (look? wts) (([] : List (Nat × Bool)).map (·.1)) hn.kl hn.pf
theorem l25_0 : LpsOk gg25 (allL tb25) [] := trivial
noncomputable abbrev ee25_1 : Nat × Lps := (1001600, ⟨L25_1001600p, L25_1001600o, L25_1001600⟩)
theorem l25_1 : LpsOk gg25 (allL tb25) [ee25_1] := addLoop (H := hn) (n := 60) (live := [0, 3, 1001600]) (b := c25L0) (ps := L25_1001600p) (os := L25_1001600o) (st := L25_1001600t) h25 wts_ok l25_0 (by kernel_rfl) (by kernel_rfl) (fun x => by kernel_rfl)
noncomputable def K25 : Ctr := ⟨.cons (.row (sPair)) (.nil), .cons (.b) (.nil), [(false, 1)], [(false, 1)], [], F25⟩
theorem k25 : CtrOk Try.prog 25 K25 := addFun (H := hn) (n := 60) orders td25 h25 wts_ok l25_1 rfl rfl (fun x => by kernel_rfl)
def tb28 : List (Nat × CF) := [(28, c28)]
theorem td28 : Tied Try.prog tb28 := ⟨⟨_, _, Try.func28, t28⟩, trivial⟩
noncomputable def ct28 : List (Nat × Ctr) := []
theorem h28 : CtsOk Try.prog ct28 := trivial
noncomputable abbrev gg28 : Cfg := cfgT Try.prog (look? tb28) (look? ct28) (look? wts) (([] : List (Nat × Bool)).map (·.1)) hn.kl hn.pf
theorem l28_0 : LpsOk gg28 (allL tb28) [] := trivial
noncomputable abbrev ee28_1 : Nat × Lps := (1001792, ⟨L28_1001792p, L28_1001792o, L28_1001792⟩)
theorem l28_1 : LpsOk gg28 (allL tb28) [ee28_1] := addLoop (H := hn) (n := 60) (live := [0, 1, 5, 6, 1001792]) (b := c28L0) (ps := L28_1001792p) (os := L28_1001792o) (st := L28_1001792t) h28 wts_ok l28_0 (by kernel_rfl) (by kernel_rfl) (fun x => match x with | .inl x => (by kernel_rfl) | .inr (x) => (by kernel_rfl))
noncomputable def K28 : Ctr := ⟨.cons (.row (sPair)) (.cons (.s) (.nil)), .cons (.row (sPair)) (.nil), [(false, 1), (false, 1)], [(false, 1)], [], F28⟩
theorem k28 : CtrOk Try.prog 28 K28 := addFun (H := hn) (n := 60) orders td28 h28 wts_ok l28_1 rfl rfl (fun x => by kernel_rfl)
def tb29 : List (Nat × CF) := [(29, c29)]
theorem td29 : Tied Try.prog tb29 := ⟨⟨_, _, Try.func29, t29⟩, trivial⟩
noncomputable def ct29 : List (Nat × Ctr) := []
theorem h29 : CtsOk Try.prog ct29 := trivial
noncomputable abbrev gg29 : Cfg := cfgT Try.prog (look? tb29) (look? ct29) (look? wts) (([] : List (Nat × Bool)).map (·.1)) hn.kl hn.pf
theorem l29_0 : LpsOk gg29 (allL tb29) [] := trivial
noncomputable abbrev ee29_1 : Nat × Lps := (1001856, ⟨L29_1001856p, L29_1001856o, L29_1001856⟩)
theorem l29_1 : LpsOk gg29 (allL tb29) [ee29_1] := addLoop (H := hn) (n := 60) (live := [0, 3, 5, 6, 7, 1001856]) (b := c29L0) (ps := L29_1001856p) (os := L29_1001856o) (st := L29_1001856t) h29 wts_ok l29_0 (by kernel_rfl) (by kernel_rfl) (fun x => match x with | .inl x => (by kernel_rfl) | .inr (x) => (by kernel_rfl))
noncomputable def K29 : Ctr := ⟨.cons (.row (sPair)) (.cons (sPair) (.nil)), .cons (.row (sPair)) (.nil), [(false, 1), (true, 2)], [(false, 1)], [], F29⟩
theorem k29 : CtrOk Try.prog 29 K29 := addFun (H := hn) (n := 60) orders td29 h29 wts_ok l29_1 rfl rfl (fun x => by kernel_rfl)
def tb18 : List (Nat × CF) := [(18, c18)]
theorem td18 : Tied Try.prog tb18 := ⟨⟨_, _, Try.func18, t18⟩, trivial⟩
noncomputable def ct18 : List (Nat × Ctr) := []
theorem h18 : CtsOk Try.prog ct18 := trivial
noncomputable abbrev gg18 : Cfg := cfgT Try.prog (look? tb18) (look? ct18) (look? wts) (([] : List (Nat × Bool)).map (·.1)) hn.kl hn.pf
theorem l18_0 : LpsOk gg18 (allL tb18) [] := trivial
noncomputable abbrev ee18_1 : Nat × Lps := (1001152, ⟨L18_1001152p, L18_1001152o, L18_1001152⟩)
theorem l18_1 : LpsOk gg18 (allL tb18) [ee18_1] := addLoop (H := hn) (n := 60) (live := [0, 1, 5, 1001152]) (b := c18L0) (ps := L18_1001152p) (os := L18_1001152o) (st := L18_1001152t) h18 wts_ok l18_0 (by kernel_rfl) (by kernel_rfl) (fun x => by kernel_rfl)
noncomputable def K18 : Ctr := ⟨.cons (.row (sOp)) (.cons (.row (sOp)) (.nil)), .cons (.b) (.nil), [(false, 1), (false, 1)], [(false, 1)], [], F18⟩
theorem k18 : CtrOk Try.prog 18 K18 := addFun (H := hn) (n := 60) orders td18 h18 wts_ok l18_1 rfl rfl (fun x => by kernel_rfl)
def tb19 : List (Nat × CF) := [(19, c19)]
theorem td19 : Tied Try.prog tb19 := ⟨⟨_, _, Try.func19, t19⟩, trivial⟩
noncomputable def ct19 : List (Nat × Ctr) := []
theorem h19 : CtsOk Try.prog ct19 := trivial
noncomputable abbrev gg19 : Cfg := cfgT Try.prog (look? tb19) (look? ct19) (look? wts) (([] : List (Nat × Bool)).map (·.1)) hn.kl hn.pf
theorem l19_0 : LpsOk gg19 (allL tb19) [] := trivial
noncomputable abbrev ee19_1 : Nat × Lps := (1001216, ⟨L19_1001216p, L19_1001216o, L19_1001216⟩)
theorem l19_1 : LpsOk gg19 (allL tb19) [ee19_1] := addLoop (H := hn) (n := 60) (live := [0, 1, 5, 1001216]) (b := c19L0) (ps := L19_1001216p) (os := L19_1001216o) (st := L19_1001216t) h19 wts_ok l19_0 (by kernel_rfl) (by kernel_rfl) (fun x => by kernel_rfl)
noncomputable def K19 : Ctr := ⟨.cons (.row (sPair)) (.cons (.row (sPair)) (.nil)), .cons (.b) (.nil), [(false, 1), (false, 1)], [(false, 1)], [], F19⟩
theorem k19 : CtrOk Try.prog 19 K19 := addFun (H := hn) (n := 60) orders td19 h19 wts_ok l19_1 rfl rfl (fun x => by kernel_rfl)
def tb14 : List (Nat × CF) := [(14, c14)]
theorem td14 : Tied Try.prog tb14 := ⟨⟨_, _, Try.func14, t14⟩, trivial⟩
noncomputable def ct14 : List (Nat × Ctr) := [(24, K24)]
theorem h14 : CtsOk Try.prog ct14 := ⟨k24, trivial⟩
noncomputable abbrev gg14 : Cfg := cfgT Try.prog (look? tb14) (look? ct14) (look? wts) (([(0, true)] : List (Nat × Bool)).map (·.1)) hn.kl hn.pf
theorem l14_0 : LpsOk gg14 (allL tb14) [] := trivial
noncomputable abbrev ee14_1 : Nat × Lps := (1000896, ⟨L14_1000896p, L14_1000896o, L14_1000896⟩)
theorem l14_1 : LpsOk gg14 (allL tb14) [ee14_1] := addLoop (H := hn) (n := 60) (live := [0, 1, 6, 7, 8, 1000896]) (b := c14L0) (ps := L14_1000896p) (os := L14_1000896o) (st := L14_1000896t) h14 wts_ok l14_0 (by kernel_rfl) (by kernel_rfl) (fun x => match x with | .inl x => (by kernel_rfl) | .inr (x) => (by kernel_rfl))
noncomputable def K14 : Ctr := ⟨.cons (.row (sPair)) (.cons (.row (sPair)) (.nil)), .cons (.row (sOp)) (.cons (.i .i64) (.nil)), [(false, 1), (false, 1)], [(false, 1), (false, 1)], [(0, true)], F14⟩
theorem k14 : CtrOk Try.prog 14 K14 := addFun (H := hn) (n := 60) orders td14 h14 wts_ok l14_1 rfl rfl (fun x => by kernel_rfl)
def tb15 : List (Nat × CF) := [(15, c15)]
theorem td15 : Tied Try.prog tb15 := ⟨⟨_, _, Try.func15, t15⟩, trivial⟩
noncomputable def ct15 : List (Nat × Ctr) := [(25, K25)]
theorem h15 : CtsOk Try.prog ct15 := ⟨k25, trivial⟩
noncomputable abbrev gg15 : Cfg := cfgT Try.prog (look? tb15) (look? ct15) (look? wts) (([] : List (Nat × Bool)).map (·.1)) hn.kl hn.pf
theorem l15_0 : LpsOk gg15 (allL tb15) [] := trivial
noncomputable abbrev ee15_1 : Nat × Lps := (1000962, ⟨L15_1000962p, L15_1000962o, L15_1000962⟩)
theorem l15_1 : LpsOk gg15 (allL tb15) [ee15_1] := addLoop (H := hn) (n := 60) (live := [0, 6, 7, 1000962]) (b := c15L2) (ps := L15_1000962p) (os := L15_1000962o) (st := L15_1000962t) h15 wts_ok l15_0 (by kernel_rfl) (by kernel_rfl) (fun x => match x with | .inl x => (by kernel_rfl) | .inr (x) => (by kernel_rfl))
noncomputable abbrev ee15_2 : Nat × Lps := (1000961, ⟨L15_1000961p, L15_1000961o, L15_1000961⟩)
theorem l15_2 : LpsOk gg15 (allL tb15) [ee15_2, ee15_1] := addLoop (H := hn) (n := 60) (live := [0, 1, 6, 7, 8, 1000961]) (b := c15L0) (ps := L15_1000961p) (os := L15_1000961o) (st := L15_1000961t) h15 wts_ok l15_1 (by kernel_rfl) (by kernel_rfl) (fun x => match x with | .inl x => (by kernel_rfl) | .inr (x) => (by kernel_rfl))
noncomputable abbrev ee15_3 : Nat × Lps := (1000960, ⟨L15_1000960p, L15_1000960o, L15_1000960⟩)
theorem l15_3 : LpsOk gg15 (allL tb15) [ee15_3, ee15_2, ee15_1] := addLoop (H := hn) (n := 60) (live := [0, 1, 6, 7, 8, 1000960]) (b := c15L1) (ps := L15_1000960p) (os := L15_1000960o) (st := L15_1000960t) h15 wts_ok l15_2 (by kernel_rfl) (by kernel_rfl) (fun x => match x with | .inl x => (by kernel_rfl) | .inr (x) => (by kernel_rfl))
noncomputable def K15 : Ctr := ⟨.cons (.row (sPair)) (.cons (.row (sPair)) (.nil)), .cons (.row (sOp)) (.cons (.i .i64) (.nil)), [(false, 1), (false, 1)], [(false, 1), (false, 1)], [], F15⟩
theorem k15 : CtrOk Try.prog 15 K15 := addFun (H := hn) (n := 60) orders td15 h15 wts_ok l15_3 rfl rfl (fun x => by kernel_rfl)
def tb17 : List (Nat × CF) := [(17, c17)]
theorem td17 : Tied Try.prog tb17 := ⟨⟨_, _, Try.func17, t17⟩, trivial⟩
noncomputable def ct17 : List (Nat × Ctr) := [(25, K25), (28, K28), (29, K29)]
theorem h17 : CtsOk Try.prog ct17 := ⟨k25, k28, k29, trivial⟩
noncomputable abbrev gg17 : Cfg := cfgT Try.prog (look? tb17) (look? ct17) (look? wts) (([] : List (Nat × Bool)).map (·.1)) hn.kl hn.pf
theorem l17_0 : LpsOk gg17 (allL tb17) [] := trivial
noncomputable abbrev ee17_1 : Nat × Lps := (1001088, ⟨L17_1001088p, L17_1001088o, L17_1001088⟩)
theorem l17_1 : LpsOk gg17 (allL tb17) [ee17_1] := addLoop (H := hn) (n := 60) (live := [1, 6, 7, 1001088]) (b := c17L0) (ps := L17_1001088p) (os := L17_1001088o) (st := L17_1001088t) h17 wts_ok l17_0 (by kernel_rfl) (by kernel_rfl) (fun x => match x with | .inl x => (by kernel_rfl) | .inr (.inl x) => (by kernel_rfl) | .inr (.inr (x)) => (by kernel_rfl))
noncomputable def K17 : Ctr := ⟨.cons (.row (sPair)) (.cons (.row (sOp)) (.nil)), .cons (.row (sPair)) (.cons (.i .i64) (.nil)), [(false, 1), (false, 1)], [(false, 1), (false, 1)], [], F17⟩
theorem k17 : CtrOk Try.prog 17 K17 := addFun (H := hn) (n := 60) orders td17 h17 wts_ok l17_1 rfl rfl (fun x => by kernel_rfl)
def tb16 : List (Nat × CF) := [(16, c16), (27, c27), (38, c38)]
theorem td16 : Tied Try.prog tb16 := ⟨⟨_, _, Try.func16, t16⟩, ⟨_, _, Try.func27, t27⟩, ⟨_, _, Try.func38, t38⟩, trivial⟩
noncomputable def ct16 : List (Nat × Ctr) := [(24, K24)]
theorem h16 : CtsOk Try.prog ct16 := ⟨k24, trivial⟩
noncomputable abbrev gg16 : Cfg := cfgT Try.prog (look? tb16) (look? ct16) (look? wts) (([(0, true)] : List (Nat × Bool)).map (·.1)) hn.kl hn.pf
theorem l16_0 : LpsOk gg16 (allL tb16) [] := trivial
noncomputable abbrev ee16_1 : Nat × Lps := (1001026, ⟨L16_1001026p, L16_1001026o, L16_1001026⟩)
theorem l16_1 : LpsOk gg16 (allL tb16) [ee16_1] := addLoop (H := hn) (n := 60) (live := [6, 11, 76, 77, 78, 1001026]) (b := c16L2) (ps := L16_1001026p) (os := L16_1001026o) (st := L16_1001026t) h16 wts_ok l16_0 (by kernel_rfl) (by kernel_rfl) (fun x => match x with | .inl x => (by kernel_rfl) | .inr (x) => (by kernel_rfl))
noncomputable abbrev ee16_2 : Nat × Lps := (1001025, ⟨L16_1001025p, L16_1001025o, L16_1001025⟩)
theorem l16_2 : LpsOk gg16 (allL tb16) [ee16_2, ee16_1] := addLoop (H := hn) (n := 60) (live := [6, 38, 39, 40, 1001025]) (b := c16L1) (ps := L16_1001025p) (os := L16_1001025o) (st := L16_1001025t) h16 wts_ok l16_1 (by kernel_rfl) (by kernel_rfl) (fun x => by kernel_rfl)
noncomputable abbrev ee16_3 : Nat × Lps := (1001024, ⟨L16_1001024p, L16_1001024o, L16_1001024⟩)
theorem l16_3 : LpsOk gg16 (allL tb16) [ee16_3, ee16_2, ee16_1] := addLoop (H := hn) (n := 60) (live := [1, 6, 26, 27, 28, 1001024]) (b := c16L0) (ps := L16_1001024p) (os := L16_1001024o) (st := L16_1001024t) h16 wts_ok l16_2 (by kernel_rfl) (by kernel_rfl) (fun x => by kernel_rfl)
noncomputable def K16 : Ctr := ⟨.cons (.row (sPair)) (.cons (.row (sOp)) (.nil)), .cons (.row (sPair)) (.cons (.i .i64) (.nil)), [(false, 1), (false, 1)], [(false, 1), (false, 1)], [(0, true)], F16⟩
theorem k16 : CtrOk Try.prog 16 K16 := addFun (H := hn) (n := 60) orders td16 h16 wts_ok l16_3 rfl rfl (fun x => by kernel_rfl)
def tb4 : List (Nat × CF) := [(4, c4)]
theorem td4 : Tied Try.prog tb4 := ⟨⟨_, _, Try.func4, t4⟩, trivial⟩
noncomputable def ct4 : List (Nat × Ctr) := [(12, K12), (13, K13), (14, K14), (15, K15), (16, K16), (17, K17), (18, K18), (19, K19)]
theorem h4 : CtsOk Try.prog ct4 := ⟨k12, k13, k14, k15, k16, k17, k18, k19, trivial⟩
noncomputable abbrev gg4 : Cfg := cfgT Try.prog (look? tb4) (look? ct4) (look? wts) (([] : List (Nat × Bool)).map (·.1)) hn.kl hn.pf
theorem l4_0 : LpsOk gg4 (allL tb4) [] := trivial
noncomputable abbrev ee4_1 : Nat × Lps := (1000256, ⟨L4_1000256p, L4_1000256o, L4_1000256⟩)
theorem l4_1 : LpsOk gg4 (allL tb4) [ee4_1] := addLoop (H := hn) (n := 60) (live := [0, 7, 12, 16, 17, 1000256]) (b := c4L0) (ps := L4_1000256p) (os := L4_1000256o) (st := L4_1000256t) h4 wts_ok l4_0 (by kernel_rfl) (by kernel_rfl) (fun x => match x with | .inl x => (by kernel_rfl) | .inr (.inl x) => (by kernel_rfl) | .inr (.inr (.inl x)) => (by kernel_rfl) | .inr (.inr (.inr (x))) => (by kernel_rfl))
noncomputable def K4 : Ctr := ⟨.cons (.row (sPair)) (.cons (.row (sPair)) (.cons (.row (sOp)) (.nil))), .cons (.b) (.nil), [(false, 1), (false, 1), (false, 1)], [(false, 1)], [], F4⟩
theorem k4 : CtrOk Try.prog 4 K4 := addFun (H := hn) (n := 60) orders td4 h4 wts_ok l4_1 rfl rfl (fun x => by kernel_rfl)
end Go.Proofs.Ytbkpphmonfeaoaa.rowsDiff.Code
