/- The law FairWell holds of the given program: for any arguments its code returns true and turns nothing that was there; the arguments read as they did. -/
import Derived.Test.YtbkjflfbgknagaaGreatRows
import Derived.Test.YtbkjflfbgknagaaGreatFunFairWell
import Derived.Test.YtbkjflfbgknagaaGreatPureFairWell
import Derived.WalkKit
import Derived.ProofKit
import Derived.OpenShut
import Derived.ShutString
import Derived.ChangeOld
import Derived.Carry
import Derived.SizedLaws
namespace Go.Proofs.YtbkjflfbgknagaaGreat.fairWell
open Go.ChangeShapes Go.WideShapes Go.ChangeAt Go.RowKit Go.Am _root_.Go.Proofs.YtbkjflfbgknagaaGreat.fairWell.Code
set_option linter.unusedVariables false
theorem own : ownKnob Tryz.prog.godebug = none := by kernel_rfl
theorem laidOut : laidOutB Tryz.prog = true := by kernel_rfl
theorem shA (w : AV) (l : List AV) : bC (w :: l) = bC [w] ++ bC l := by cases w <;> rfl
theorem underlying : Tryz.prog.underlying ((Tryz.f8.resultTypes.getD 0 0)) = some .bool := by kernel_rfl
theorem TK : jw Tryz.prog 8 28 = true := by kernel_rfl
theorem TL : yw Tryz.prog 8 28 = some (co) := by kernel_rfl
theorem Kn : Tryz.prog.readableRec 28 = true := by kernel_rfl
set_option maxRecDepth 100000 in
theorem lifted (os : Os) (started : os.Started) (H : Type) (enc : TypeId × Value → H) :
    ReturnsInHanded {} Tryz.checked os 8 .any (Rows.fairWellSpec.pre6 enc Tryz.prog Tryz.f8 Rows.fairWellRow.domain false) (Rows.fairWellSpec.post enc Tryz.prog Tryz.f8 false true false false) := by
  refine returnsInHanded_of_change_sized (C := Tryz.checked) own started (by kernel_rfl) Tryz.func8
    (ChangeSpec.witness6 (enc := enc) (C := Tryz.checked) false ⟨#[], #[.agg #[.int .i64 0, .int .i64 0, .int .i64 0, .int .i64 0, .int .i64 0, .int .i64 0, .slice none 0 0, .slice none 0 0]], []⟩ 8 (by kernel_rfl) (by kernel_rfl) (by kernel_rfl) (by kernel_rfl)) ?_
  intro W base args ds gs before hval0 hW hcnd hsz0 _
  have hval : ∀ (j : Nat) t v, Tryz.f8.params[j]? = some t → args[j]? = some v → Value.okWide Tryz.prog W .any base t v := hval0
  have hW' := hW
  obtain ⟨p, q, hA0, hV, rfl, hfz, hnd⟩ := hW
  have hA : DataW.TrodAll enc Tryz.prog W 0 (fun _ => true) true Tryz.f8.params.toList args.toList ds p := hA0
  rw [Tryz.params8] at hA hval
  obtain ⟨v0, vs0, d0, ds0, p0, q0, hargs, rfl, rfl, h0, r0⟩ := trodAll_cons hA
  obtain ⟨rfl, rfl, rfl⟩ := trodAll_nil r0
  obtain rfl : args = #[v0] := by cases args; simp_all
  obtain ⟨rfl, rfl⟩ := trodVars_none hV
  obtain ⟨x0, w0, e0, o0, k0, s0⟩ := Ur TK TL (hval 0 28 v0 rfl rfl) h0
  have lt0 : ∀ x ∈ p0, x.block < W.heap.size := by obtain ⟨m, hm⟩ := h0; exact DataW.trod_lt m _ _ _ hm
  clear hA0 hval0 hsz0
  obtain ⟨y, hy, hyt⟩ := Code.pure (x0, ()) ⟨o0, trivial⟩
  have hsh : bC [w0] = K8.as := by
    rw [s0]
    kernel_rfl
  refine (Nb k8 rfl rfl rfl hsh ⟨_, _, rfl, e0, rfl⟩ hy hyt W #[v0] (.cons k0 .nil)).mono fun e W' ⟨he, bel⟩ => ?_
  subst he
  exact ⟨_, rfl, _, _, _, [], _, [], hW', trodAll_mk1 (shut_bool underlying _), (trodAll_cons_mk (Below.trod laidOut Kn (of_decide_eq_true (by kernel_rfl)) h0 bel lt0) trodAll_mk0), rfl, bel.frame _, fun h => by cases h⟩
theorem over : Rows.fairWellRow.holds Tryz.pinned (OpenSpec.ofChange Rows.fairWellSpec) :=
  OpenClaim.holds_of_wide 8 Tryz.f8 rfl rfl rfl rfl rfl rfl rfl ⟨rfl, rfl, rfl, rfl, rfl⟩ rfl rfl rfl rfl rfl (by kernel_rfl) Tryz.func8 (by kernel_rfl)
    (of_decide_eq_true (by kernel_rfl)) (by unfold Func.isWrapper; first | (rw [if_pos (by decide +kernel)]; kernel_rfl) | (rw [if_neg (by decide +kernel)]; exact ⟨rfl, rfl⟩))
    (fun os started H enc _ => lifted os started H enc)
theorem proved : Rows.FairWellSaid := over
end Go.Proofs.YtbkjflfbgknagaaGreat.fairWell
namespace Go.Proofs.YtbkjflfbgknagaaGreat
theorem fairWell_holds : Rows.FairWellSaid := fairWell.proved
#print axioms fairWell_holds
end Go.Proofs.YtbkjflfbgknagaaGreat
