/-
  No cell of these rows narrows 'for every input' (looked for: loops, veiled, ifaces, maps, wideKeys, modest, calm, conditions, laid).
  DERIVED. THE GIVEN ROWS OF THIS SEAT. 9 by the template 'for every input the law returns true; each argument reads behind the call as it read before'; 0 by the template 'total and deterministic' (their statements: YtbkjflfbgknagaaGreatTotals.lean).
  GIVEN WITH THE SEED: the statements are not yours to turn. If you find one false, say at which input.
  Laid BY PROGRAM, IN A SANDBOX (cutbox-rows.mjs): the forced cells as the released guide's own fill.sh prints them over the translation 75d895e67f61715a… (all of the seat's roots in one cut). By AI agents, Wed Nov 11 2026. No macro, syntax, notation, axiom, sorry.
-/
import Derived.Test.YtbkjflfbgknagaaGreatChecked
import GoSem.Claim
import GoSem.ClaimJoined
import GoSem.ClaimMapViews
import Derived.JoinedTies
import Derived.KernelRfl
namespace Go.Proofs.YtbkjflfbgknagaaGreat
/- THE CELL 'sum', in the pinned program and in every row, IS THE sha256 OF THE DUMP (.gsa) THAT YtbkjflfbgknagaaGreatProg.lean LOADS. Nothing in Lean hashes anything: it is a label: what it is worth is what the hold of that sum in a sandbox is worth. -/
noncomputable def Tryz.pinned : Pinned := { name := "ytbkjflfbgknagaagreat", sum := "75d895e67f61715a53a62e80bbb6409f0db7624639d421fa3b5d23e39284ac78", checked := Tryz.checked }
namespace Rows
def none {H : Type} : Left H := { results := [], args := [] }

/-- 'millhandlaw27.ModelLeases': WHATEVER THE INPUT: true; the input reads as it did. -/
def modelLeasesSpec : ChangeSpec := { name := "modelLeases", fn := fun _ => fun
  | [d] => { results := [.lit (.bool true)], args := [d] }
  | _ => none }
def modelLeasesRow : OpenClaim := { program := "ytbkjflfbgknagaagreat", sum := "75d895e67f61715a53a62e80bbb6409f0db7624639d421fa3b5d23e39284ac78", func := "millhand/millhandlaw27.ModelLeases", spec := "modelLeases", unfollowed := true, recurses := true, apart := false }
def ModelLeasesSaid : Prop := modelLeasesRow.holds Tryz.pinned (OpenSpec.ofChange modelLeasesSpec)

/-- ITS FALSE NEIGHBOUR: 'it returns false'. Refute it at one input. -/
def modelLeasesWrong : ChangeSpec := { name := "modelLeases", fn := fun _ => fun
  | [d] => { results := [.lit (.bool false)], args := [d] }
  | _ => none }
def ModelLeasesWrongFalsely : Prop := modelLeasesRow.holds Tryz.pinned (OpenSpec.ofChange modelLeasesWrong)

/-- 'millhandlaw27.ModelOutbox': WHATEVER THE INPUT: true; the input reads as it did. -/
def modelOutboxSpec : ChangeSpec := { name := "modelOutbox", fn := fun _ => fun
  | [d] => { results := [.lit (.bool true)], args := [d] }
  | _ => none }
def modelOutboxRow : OpenClaim := { program := "ytbkjflfbgknagaagreat", sum := "75d895e67f61715a53a62e80bbb6409f0db7624639d421fa3b5d23e39284ac78", func := "millhand/millhandlaw27.ModelOutbox", spec := "modelOutbox", unfollowed := true, recurses := true, apart := false }
def ModelOutboxSaid : Prop := modelOutboxRow.holds Tryz.pinned (OpenSpec.ofChange modelOutboxSpec)

/-- ITS FALSE NEIGHBOUR: 'it returns false'. Refute it at one input. -/
def modelOutboxWrong : ChangeSpec := { name := "modelOutbox", fn := fun _ => fun
  | [d] => { results := [.lit (.bool false)], args := [d] }
  | _ => none }
def ModelOutboxWrongFalsely : Prop := modelOutboxRow.holds Tryz.pinned (OpenSpec.ofChange modelOutboxWrong)

/-- 'millhandlaw31.FairLighter': WHATEVER THE INPUT: true; the input reads as it did. -/
def fairLighterSpec : ChangeSpec := { name := "fairLighter", fn := fun _ => fun
  | [d1, d2] => { results := [.lit (.bool true)], args := [d1, d2] }
  | _ => none }
def fairLighterRow : OpenClaim := { program := "ytbkjflfbgknagaagreat", sum := "75d895e67f61715a53a62e80bbb6409f0db7624639d421fa3b5d23e39284ac78", func := "millhand/millhandlaw31.FairLighter", spec := "fairLighter", unfollowed := true, recurses := true, apart := false }
def FairLighterSaid : Prop := fairLighterRow.holds Tryz.pinned (OpenSpec.ofChange fairLighterSpec)

/-- ITS FALSE NEIGHBOUR: 'it returns false'. Refute it at one input. -/
def fairLighterWrong : ChangeSpec := { name := "fairLighter", fn := fun _ => fun
  | [d1, d2] => { results := [.lit (.bool false)], args := [d1, d2] }
  | _ => none }
def FairLighterWrongFalsely : Prop := fairLighterRow.holds Tryz.pinned (OpenSpec.ofChange fairLighterWrong)

/-- 'millhandlaw27.ModelDoes': WHATEVER THE INPUT: true; the input reads as it did. -/
def modelDoesSpec : ChangeSpec := { name := "modelDoes", fn := fun _ => fun
  | [d1, d2, d3] => { results := [.lit (.bool true)], args := [d1, d2, d3] }
  | _ => none }
def modelDoesRow : OpenClaim := { program := "ytbkjflfbgknagaagreat", sum := "75d895e67f61715a53a62e80bbb6409f0db7624639d421fa3b5d23e39284ac78", func := "millhand/millhandlaw27.ModelDoes", spec := "modelDoes", unfollowed := true, recurses := true, apart := false }
def ModelDoesSaid : Prop := modelDoesRow.holds Tryz.pinned (OpenSpec.ofChange modelDoesSpec)

/-- ITS FALSE NEIGHBOUR: 'it returns false'. Refute it at one input. -/
def modelDoesWrong : ChangeSpec := { name := "modelDoes", fn := fun _ => fun
  | [d1, d2, d3] => { results := [.lit (.bool false)], args := [d1, d2, d3] }
  | _ => none }
def ModelDoesWrongFalsely : Prop := modelDoesRow.holds Tryz.pinned (OpenSpec.ofChange modelDoesWrong)

/-- 'millhandlaw27.ModelStays': WHATEVER THE INPUT: true; the input reads as it did. -/
def modelStaysSpec : ChangeSpec := { name := "modelStays", fn := fun _ => fun
  | [d1, d2] => { results := [.lit (.bool true)], args := [d1, d2] }
  | _ => none }
def modelStaysRow : OpenClaim := { program := "ytbkjflfbgknagaagreat", sum := "75d895e67f61715a53a62e80bbb6409f0db7624639d421fa3b5d23e39284ac78", func := "millhand/millhandlaw27.ModelStays", spec := "modelStays", unfollowed := true, recurses := true, apart := false }
def ModelStaysSaid : Prop := modelStaysRow.holds Tryz.pinned (OpenSpec.ofChange modelStaysSpec)

/-- ITS FALSE NEIGHBOUR: 'it returns false'. Refute it at one input. -/
def modelStaysWrong : ChangeSpec := { name := "modelStays", fn := fun _ => fun
  | [d1, d2] => { results := [.lit (.bool false)], args := [d1, d2] }
  | _ => none }
def ModelStaysWrongFalsely : Prop := modelStaysRow.holds Tryz.pinned (OpenSpec.ofChange modelStaysWrong)

/-- 'millhandlaw31.FairWell': WHATEVER THE INPUT: true; the input reads as it did. -/
def fairWellSpec : ChangeSpec := { name := "fairWell", fn := fun _ => fun
  | [d] => { results := [.lit (.bool true)], args := [d] }
  | _ => none }
def fairWellRow : OpenClaim := { program := "ytbkjflfbgknagaagreat", sum := "75d895e67f61715a53a62e80bbb6409f0db7624639d421fa3b5d23e39284ac78", func := "millhand/millhandlaw31.FairWell", spec := "fairWell", unfollowed := true, recurses := true, apart := false }
def FairWellSaid : Prop := fairWellRow.holds Tryz.pinned (OpenSpec.ofChange fairWellSpec)

/-- ITS FALSE NEIGHBOUR: 'it returns false'. Refute it at one input. -/
def fairWellWrong : ChangeSpec := { name := "fairWell", fn := fun _ => fun
  | [d] => { results := [.lit (.bool false)], args := [d] }
  | _ => none }
def FairWellWrongFalsely : Prop := fairWellRow.holds Tryz.pinned (OpenSpec.ofChange fairWellWrong)

/-- 'millhandlaw31.FairEnds': WHATEVER THE INPUT: true; the input reads as it did. -/
def fairEndsSpec : ChangeSpec := { name := "fairEnds", fn := fun _ => fun
  | [d1, d2] => { results := [.lit (.bool true)], args := [d1, d2] }
  | _ => none }
def fairEndsRow : OpenClaim := { program := "ytbkjflfbgknagaagreat", sum := "75d895e67f61715a53a62e80bbb6409f0db7624639d421fa3b5d23e39284ac78", func := "millhand/millhandlaw31.FairEnds", spec := "fairEnds", unfollowed := true, recurses := true, apart := false }
def FairEndsSaid : Prop := fairEndsRow.holds Tryz.pinned (OpenSpec.ofChange fairEndsSpec)

/-- ITS FALSE NEIGHBOUR: 'it returns false'. Refute it at one input. -/
def fairEndsWrong : ChangeSpec := { name := "fairEnds", fn := fun _ => fun
  | [d1, d2] => { results := [.lit (.bool false)], args := [d1, d2] }
  | _ => none }
def FairEndsWrongFalsely : Prop := fairEndsRow.holds Tryz.pinned (OpenSpec.ofChange fairEndsWrong)

/-- 'millhandlaw31.FairPlays': WHATEVER THE INPUT: true; the input reads as it did. -/
def fairPlaysSpec : ChangeSpec := { name := "fairPlays", fn := fun _ => fun
  | [d1, d2, d3] => { results := [.lit (.bool true)], args := [d1, d2, d3] }
  | _ => none }
def fairPlaysRow : OpenClaim := { program := "ytbkjflfbgknagaagreat", sum := "75d895e67f61715a53a62e80bbb6409f0db7624639d421fa3b5d23e39284ac78", func := "millhand/millhandlaw31.FairPlays", spec := "fairPlays", unfollowed := true, recurses := true, apart := false }
def FairPlaysSaid : Prop := fairPlaysRow.holds Tryz.pinned (OpenSpec.ofChange fairPlaysSpec)

/-- ITS FALSE NEIGHBOUR: 'it returns false'. Refute it at one input. -/
def fairPlaysWrong : ChangeSpec := { name := "fairPlays", fn := fun _ => fun
  | [d1, d2, d3] => { results := [.lit (.bool false)], args := [d1, d2, d3] }
  | _ => none }
def FairPlaysWrongFalsely : Prop := fairPlaysRow.holds Tryz.pinned (OpenSpec.ofChange fairPlaysWrong)

/-- 'millhandlaw31.FairDoes': WHATEVER THE INPUT: true; the input reads as it did. -/
def fairDoesSpec : ChangeSpec := { name := "fairDoes", fn := fun _ => fun
  | [d1, d2] => { results := [.lit (.bool true)], args := [d1, d2] }
  | _ => none }
def fairDoesRow : OpenClaim := { program := "ytbkjflfbgknagaagreat", sum := "75d895e67f61715a53a62e80bbb6409f0db7624639d421fa3b5d23e39284ac78", func := "millhand/millhandlaw31.FairDoes", spec := "fairDoes", unfollowed := true, recurses := true, apart := false }
def FairDoesSaid : Prop := fairDoesRow.holds Tryz.pinned (OpenSpec.ofChange fairDoesSpec)

/-- ITS FALSE NEIGHBOUR: 'it returns false'. Refute it at one input. -/
def fairDoesWrong : ChangeSpec := { name := "fairDoes", fn := fun _ => fun
  | [d1, d2] => { results := [.lit (.bool false)], args := [d1, d2] }
  | _ => none }
def FairDoesWrongFalsely : Prop := fairDoesRow.holds Tryz.pinned (OpenSpec.ofChange fairDoesWrong)

/- THE SECOND FORM. 'bulk': how many values and letters a reading holds, each counted each time it is reached (what is shared counts as often as it is met; a slice's spare places count too). A statement '..UptoSaid' is the law's where the arguments, and the package variables that the reading takes, are together of bulk at most 1048576: NARROWER than '..Said'. Prove '..Said' where nothing that the law and all that it calls make is longer than what came in: it says more and counts as full. Else prove '..UptoSaid'. A law counts once. -/
mutual
def uptoBulk {H : Type} : DataW H → Nat
  | .lit (.string bytes) => bytes.length + 1
  | .lit _ => 1
  | .nil => 1
  | .ptr d => uptoBulk d + 1
  | .slice elems spare => uptoBulkAll elems + uptoBulkAll spare + 1
  | .agg parts => uptoBulkAll parts + 1
  | .iface _ d => uptoBulk d + 1
  | .map entries => uptoBulkEntries entries + 1
  | .held _ => 1
def uptoBulkAll {H : Type} : List (DataW H) → Nat
  | [] => 0
  | d :: r => uptoBulk d + uptoBulkAll r
def uptoBulkEntries {H : Type} : List (Lit × DataW H) → Nat
  | [] => 0
  | x :: r => uptoBulkEntry x + uptoBulkEntries r
def uptoBulkEntry {H : Type} : Lit × DataW H → Nat
  | (.string bytes, d) => bytes.length + uptoBulk d + 1
  | (_, d) => uptoBulk d + 1
 end
def uptoSmall : (H : Type) → List (DataW H) → Bool := fun _ ds => decide (uptoBulkAll ds ≤ 1048576)
def OpenSpec.upto (s : _root_.Go.ChangeSpec) : _root_.Go.OpenSpec := { _root_.Go.OpenSpec.ofChange s with cond := some uptoSmall }

/-- 'millhandlaw27.ModelLeases', WHERE WHAT IT READS IS OF BULK AT MOST 1048576: true; the input reads as it did. -/
def modelLeasesUptoRow : OpenClaim := { program := "ytbkjflfbgknagaagreat", sum := "75d895e67f61715a53a62e80bbb6409f0db7624639d421fa3b5d23e39284ac78", func := "millhand/millhandlaw27.ModelLeases", spec := "modelLeases", unfollowed := true, recurses := true, apart := false, narrowed := true }
def ModelLeasesUptoSaid : Prop := modelLeasesUptoRow.holds Tryz.pinned (OpenSpec.upto modelLeasesSpec)

/-- 'millhandlaw27.ModelOutbox', WHERE WHAT IT READS IS OF BULK AT MOST 1048576: true; the input reads as it did. -/
def modelOutboxUptoRow : OpenClaim := { program := "ytbkjflfbgknagaagreat", sum := "75d895e67f61715a53a62e80bbb6409f0db7624639d421fa3b5d23e39284ac78", func := "millhand/millhandlaw27.ModelOutbox", spec := "modelOutbox", unfollowed := true, recurses := true, apart := false, narrowed := true }
def ModelOutboxUptoSaid : Prop := modelOutboxUptoRow.holds Tryz.pinned (OpenSpec.upto modelOutboxSpec)

/-- 'millhandlaw31.FairLighter', WHERE WHAT IT READS IS OF BULK AT MOST 1048576: true; the input reads as it did. -/
def fairLighterUptoRow : OpenClaim := { program := "ytbkjflfbgknagaagreat", sum := "75d895e67f61715a53a62e80bbb6409f0db7624639d421fa3b5d23e39284ac78", func := "millhand/millhandlaw31.FairLighter", spec := "fairLighter", unfollowed := true, recurses := true, apart := false, narrowed := true }
def FairLighterUptoSaid : Prop := fairLighterUptoRow.holds Tryz.pinned (OpenSpec.upto fairLighterSpec)

/-- 'millhandlaw27.ModelDoes', WHERE WHAT IT READS IS OF BULK AT MOST 1048576: true; the input reads as it did. -/
def modelDoesUptoRow : OpenClaim := { program := "ytbkjflfbgknagaagreat", sum := "75d895e67f61715a53a62e80bbb6409f0db7624639d421fa3b5d23e39284ac78", func := "millhand/millhandlaw27.ModelDoes", spec := "modelDoes", unfollowed := true, recurses := true, apart := false, narrowed := true }
def ModelDoesUptoSaid : Prop := modelDoesUptoRow.holds Tryz.pinned (OpenSpec.upto modelDoesSpec)

/-- 'millhandlaw27.ModelStays', WHERE WHAT IT READS IS OF BULK AT MOST 1048576: true; the input reads as it did. -/
def modelStaysUptoRow : OpenClaim := { program := "ytbkjflfbgknagaagreat", sum := "75d895e67f61715a53a62e80bbb6409f0db7624639d421fa3b5d23e39284ac78", func := "millhand/millhandlaw27.ModelStays", spec := "modelStays", unfollowed := true, recurses := true, apart := false, narrowed := true }
def ModelStaysUptoSaid : Prop := modelStaysUptoRow.holds Tryz.pinned (OpenSpec.upto modelStaysSpec)

/-- 'millhandlaw31.FairWell', WHERE WHAT IT READS IS OF BULK AT MOST 1048576: true; the input reads as it did. -/
def fairWellUptoRow : OpenClaim := { program := "ytbkjflfbgknagaagreat", sum := "75d895e67f61715a53a62e80bbb6409f0db7624639d421fa3b5d23e39284ac78", func := "millhand/millhandlaw31.FairWell", spec := "fairWell", unfollowed := true, recurses := true, apart := false, narrowed := true }
def FairWellUptoSaid : Prop := fairWellUptoRow.holds Tryz.pinned (OpenSpec.upto fairWellSpec)

/-- 'millhandlaw31.FairEnds', WHERE WHAT IT READS IS OF BULK AT MOST 1048576: true; the input reads as it did. -/
def fairEndsUptoRow : OpenClaim := { program := "ytbkjflfbgknagaagreat", sum := "75d895e67f61715a53a62e80bbb6409f0db7624639d421fa3b5d23e39284ac78", func := "millhand/millhandlaw31.FairEnds", spec := "fairEnds", unfollowed := true, recurses := true, apart := false, narrowed := true }
def FairEndsUptoSaid : Prop := fairEndsUptoRow.holds Tryz.pinned (OpenSpec.upto fairEndsSpec)

/-- 'millhandlaw31.FairPlays', WHERE WHAT IT READS IS OF BULK AT MOST 1048576: true; the input reads as it did. -/
def fairPlaysUptoRow : OpenClaim := { program := "ytbkjflfbgknagaagreat", sum := "75d895e67f61715a53a62e80bbb6409f0db7624639d421fa3b5d23e39284ac78", func := "millhand/millhandlaw31.FairPlays", spec := "fairPlays", unfollowed := true, recurses := true, apart := false, narrowed := true }
def FairPlaysUptoSaid : Prop := fairPlaysUptoRow.holds Tryz.pinned (OpenSpec.upto fairPlaysSpec)

/-- 'millhandlaw31.FairDoes', WHERE WHAT IT READS IS OF BULK AT MOST 1048576: true; the input reads as it did. -/
def fairDoesUptoRow : OpenClaim := { program := "ytbkjflfbgknagaagreat", sum := "75d895e67f61715a53a62e80bbb6409f0db7624639d421fa3b5d23e39284ac78", func := "millhand/millhandlaw31.FairDoes", spec := "fairDoes", unfollowed := true, recurses := true, apart := false, narrowed := true }
def FairDoesUptoSaid : Prop := fairDoesUptoRow.holds Tryz.pinned (OpenSpec.upto fairDoesSpec)

end Rows
end Go.Proofs.YtbkjflfbgknagaaGreat
