/- How elements are compared. -/
import Derived.Test.YtefehcmhdiifnaaTieLeaseTells
import Derived.KernelRfl
set_option maxRecDepth 100000
set_option linter.unusedVariables false
set_option linter.constructorNameAsVariable false
namespace Go.Proofs.Ytefehcmhdiifnaa.leaseTells.Code
open Go Go.Am
namespace Cmp
def tb99 : List (Nat × CF) := [(99, c99)]
theorem td99 : Tied Try.prog tb99 := ⟨⟨_, _, Try.func99, t99⟩, trivial⟩
noncomputable def ct99 : List (Nat × Ctr) := []
theorem h99 : CtsOk Try.prog ct99 := trivial
theorem l99_0 : LpsOk (cfgT Try.prog (look? tb99) (look? ct99) (look? wts0) (([] : List (Nat × Bool)).map (·.1))) (allL tb99) [] := trivial
/-- cmp.isNaN[int] -/
noncomputable def F99 (x : Int × Unit) : Option (Bool × Unit) := some (x.1 != x.1, ())
noncomputable def K99 : Ctr := ⟨.cons (.i .i64) (.nil), .cons (.b) (.nil), [(false, 1)], [(false, 1)], [], F99⟩
theorem k99 : CtrOk Try.prog 99 K99 := addFun (H := hn) (n := 60) orders td99 h99 wts0_ok l99_0 rfl rfl (fun x => by kernel_rfl)

def tb98 : List (Nat × CF) := [(98, c98)]
theorem td98 : Tied Try.prog tb98 := ⟨⟨_, _, Try.func98, t98⟩, trivial⟩
noncomputable def ct98 : List (Nat × Ctr) := []
theorem h98 : CtsOk Try.prog ct98 := trivial
theorem l98_0 : LpsOk (cfgT Try.prog (look? tb98) (look? ct98) (look? wts0) (([] : List (Nat × Bool)).map (·.1))) (allL tb98) [] := trivial
def L98_1006272p : List PS := [⟨[(3, .c (.hi .i64)), (6, .c (.hl (.i .i64))), (7, .c (.hi .i64)), (8, .c (.hi .i64)), (1006272, .c (.c (.ud)))], [], 0, 0⟩]
def L98_1006272o : List (EX × PS) := [(.rt, ⟨[(2, .c (.hi .i64)), (999999, .uk)], [], 0, 0⟩), (.xt 0, ⟨[(3, .c (.hi .i64)), (999999, .uk)], [], 0, 0⟩)]
noncomputable def L98_1006272s0 (x : Int × List (Int) × Int × Int × Unit) : Option ((Int × List (Int) × Int × Int × Unit) ⊕ ((Int × Unit) ⊕ (Int × Unit))) := bif decide (x.2.2.2.1 < x.2.2.1) then (bif within 0 x.2.2.2.1 ((↑x.2.1.length : Int) - 1) then (bif decide (x.2.2.2.1.toNat < x.2.1.length) then (bif x.2.1.getD x.2.2.2.1.toNat (dft (Sh.i IntKind.i64)) != x.1 then (some (.inr (.inl (x.2.1.getD x.2.2.2.1.toNat (dft (Sh.i IntKind.i64)), ())))) else (some (.inl ((x.1, x.2.1, x.2.2.1, IntKind.i64.wrap (x.2.2.2.1 + Int.ofNat 1), ()))))) else none) else none) else (some (.inr (.inr ((x.1, ())))))
noncomputable def L98_1006272t : (Int × List (Int) × Int × Int × Unit) → Option ((Int × List (Int) × Int × Int × Unit) ⊕ ((Int × Unit) ⊕ (Int × Unit))) := L98_1006272s0
noncomputable def L98_1006272 : (Int × List (Int) × Int × Int × Unit) → Option ((Int × Unit) ⊕ (Int × Unit)) := loopF L98_1006272t
theorem l98_1 : LpsOk (cfgT Try.prog (look? tb98) (look? ct98) (look? wts0) (([] : List (Nat × Bool)).map (·.1))) (allL tb98) [(1006272, ⟨L98_1006272p, L98_1006272o, L98_1006272⟩)] := addLoop (H := hn) (n := 60) (live := [3, 6, 7, 8, 1006272]) (b := c98L0) (ps := L98_1006272p) (os := L98_1006272o) (st := L98_1006272t) h98 wts0_ok l98_0 (by kernel_rfl) (by kernel_rfl) (fun x => by kernel_rfl)
/-- cmp.Or[int] -/
noncomputable def F98 (x : (List (Int)) × Unit) : Option (Int × Unit) := (L98_1006272 (Int.ofNat 0, x.1, (↑(List.length x.1) : Int), Int.ofNat 0, ())).bind fun y13 => (match y13 with | .inl a14 => some (a14.1, ()) | .inr b14 => some (b14.1, ()))
noncomputable def K98 : Ctr := ⟨.cons (.row (.i .i64)) (.nil), .cons (.i .i64) (.nil), [(false, 1)], [(false, 1)], [], F98⟩
theorem k98 : CtrOk Try.prog 98 K98 := addFun (H := hn) (n := 60) orders td98 h98 wts0_ok l98_1 rfl rfl (fun x => by kernel_rfl)

def tb69 : List (Nat × CF) := [(69, c69)]
theorem td69 : Tied Try.prog tb69 := ⟨⟨_, _, Try.func69, t69⟩, trivial⟩
noncomputable def ct69 : List (Nat × Ctr) := [(99, K99)]
theorem h69 : CtsOk Try.prog ct69 := ⟨k99, trivial⟩
theorem l69_0 : LpsOk (cfgT Try.prog (look? tb69) (look? ct69) (look? wts0) (([] : List (Nat × Bool)).map (·.1))) (allL tb69) [] := trivial
/-- cmp.Compare[int] -/
noncomputable def F69 (x : Int × Int × Unit) : Option (Int × Unit) := (F99 (x.1, ())).bind fun y22 => (F99 (x.2.1, ())).bind fun y23 => bif y22.1 then (bif y23.1 then (some (Int.ofNat 0, ())) else (some (Int.negSucc 0, ()))) else bif y23.1 then (some (Int.ofNat 1, ())) else bif decide (x.1 < x.2.1) then (some (Int.negSucc 0, ())) else bif decide (x.1 > x.2.1) then (some (Int.ofNat 1, ())) else (some (Int.ofNat 0, ()))
noncomputable def K69 : Ctr := ⟨.cons (.i .i64) (.cons (.i .i64) (.nil)), .cons (.i .i64) (.nil), [(false, 1), (false, 1)], [(false, 1)], [], F69⟩
theorem k69 : CtrOk Try.prog 69 K69 := addFun (H := hn) (n := 60) orders td69 h69 wts0_ok l69_0 rfl rfl (fun x => by kernel_rfl)

def tb97 : List (Nat × CF) := [(97, c97)]
theorem td97 : Tied Try.prog tb97 := ⟨⟨_, _, Try.func97, t97⟩, trivial⟩
noncomputable def ct97 : List (Nat × Ctr) := [(69, K69), (98, K98)]
theorem h97 : CtsOk Try.prog ct97 := ⟨k69, k98, trivial⟩
theorem l97_0 : LpsOk (cfgT Try.prog (look? tb97) (look? ct97) (look? wts0) (([] : List (Nat × Bool)).map (·.1))) (allL tb97) [] := trivial
/-- millhand/lease.places$1 -/
noncomputable def F97 (x : (Int × Int × Int × Unit) × (Int × Int × Int × Unit) × Unit) : Option (Int × Unit) := (F69 (x.1.2.2.1, (x.2.1.2.2.1, ()))).bind fun y31 => (F69 (x.1.1, (x.2.1.1, ()))).bind fun y32 => (F69 (x.1.2.1, (x.2.1.2.1, ()))).bind fun y33 => (F98 (List.take ((((List.replicate 3 (Int.ofNat 0)).set 0 y31.1).set 1 y32.1).set 2 y33.1).length (List.drop 0 ((((List.replicate 3 (Int.ofNat 0)).set 0 y31.1).set 1 y32.1).set 2 y33.1)), ())).bind fun y34 => some (y34.1, ())
noncomputable def K97 : Ctr := ⟨.cons (sPlace) (.cons (sPlace) (.nil)), .cons (.i .i64) (.nil), [(true, 3), (true, 3)], [(false, 1)], [], F97⟩
theorem k97 : CtrOk Try.prog 97 K97 := addFun (H := hn) (n := 60) orders td97 h97 wts0_ok l97_0 rfl rfl (fun x => by kernel_rfl)

end Cmp
end Go.Proofs.Ytefehcmhdiifnaa.leaseTells.Code
