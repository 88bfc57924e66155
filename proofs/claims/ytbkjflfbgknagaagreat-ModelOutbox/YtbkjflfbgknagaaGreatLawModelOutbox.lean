/- The law ModelOutbox holds of the given program: for any arguments its code returns true and turns nothing that was there; the arguments read as they did. -/
import Derived.Test.YtbkjflfbgknagaaGreatRows
import Derived.Test.YtbkjflfbgknagaaGreatFunModelOutbox
import Derived.Test.YtbkjflfbgknagaaGreatPureModelOutbox
import Derived.WalkKit
import Derived.ProofKit
import Derived.OpenShut
import Derived.ShutString
import Derived.ChangeOld
import Derived.Carry
import Derived.SizedLaws
namespace Go.Proofs.YtbkjflfbgknagaaGreat.modelOutbox
open Go.ChangeShapes Go.WideShapes Go.ChangeAt Go.RowKit Go.Am _root_.Go.Proofs.YtbkjflfbgknagaaGreat.modelOutbox.Code
set_option linter.unusedVariables false
theorem own : ownKnob Tryz.prog.godebug = none := by kernel_rfl
theorem laidOut : laidOutB Tryz.prog = true := by kernel_rfl
theorem shA (w : AV) (l : List AV) : shapeA (w :: l) = shapeA [w] ++ shapeA l := by cases w <;> rfl
theorem underlying : Tryz.prog.underlying ((Tryz.f4.resultTypes.getD 0 0)) = some .bool := by kernel_rfl
theorem plain22 : PlainT Tryz.prog 8 22 = true := by kernel_rfl
theorem shape22 : shP Tryz.prog 8 22 = some ((.row (sCall))) := by kernel_rfl
theorem readable22 : Tryz.prog.readableRec 22 = true := by kernel_rfl
set_option maxRecDepth 100000 in
theorem lifted (os : Os) (started : os.Started) (H : Type) (enc : TypeId × Value → H) :
    ReturnsInHanded {} Tryz.checked os 4 .any (Rows.modelOutboxSpec.pre6 enc Tryz.prog Tryz.f4 Rows.modelOutboxRow.domain false) (Rows.modelOutboxSpec.post enc Tryz.prog Tryz.f4 false true false false) := by
  refine returnsInHanded_of_change_sized (C := Tryz.checked) own started (by kernel_rfl) Tryz.func4
    (ChangeSpec.witness6 (enc := enc) (C := Tryz.checked) false ⟨#[], #[.slice none 0 0], []⟩ 8 (by kernel_rfl) (by kernel_rfl) (by kernel_rfl) (by kernel_rfl)) ?_
  intro W base args ds gs before hval0 hW hcnd hsz0 _
  have hval : ∀ (j : Nat) t v, Tryz.f4.params[j]? = some t → args[j]? = some v → Value.okWide Tryz.prog W .any base t v := hval0
  have hW' := hW
  obtain ⟨p, q, hA0, hV, rfl, hfz, hnd⟩ := hW
  have hA : DataW.TrodAll enc Tryz.prog W 0 (fun _ => true) true Tryz.f4.params.toList args.toList ds p := hA0
  rw [Tryz.params4] at hA hval
  obtain ⟨v0, vs0, d0, ds0, p0, q0, hargs, rfl, rfl, h0, r0⟩ := trodAll_cons hA
  obtain ⟨rfl, rfl, rfl⟩ := trodAll_nil r0
  obtain rfl : args = #[v0] := by cases args; simp_all
  obtain ⟨rfl, rfl⟩ := trodVars_none hV
  obtain ⟨x0, w0, e0, o0, k0, s0⟩ := arg_re plain22 shape22 (hval 0 22 v0 rfl rfl) h0
  have lt0 : ∀ x ∈ p0, x.block < W.heap.size := by obtain ⟨m, hm⟩ := h0; exact DataW.trod_lt m _ _ _ hm
  clear hA0 hval0 hsz0
  obtain ⟨y, hy, hyt⟩ := Code.pure (x0, ()) ⟨o0, trivial⟩
  have hsh : shapeA [w0] = K4.as := by
    rw [s0]
    kernel_rfl
  refine (law_walk k4 rfl rfl rfl hsh ⟨_, _, rfl, e0, rfl⟩ hy hyt W #[v0] (.cons k0 .nil)).mono fun e W' ⟨he, bel⟩ => ?_
  subst he
  exact ⟨_, rfl, _, _, _, [], _, [], hW', trodAll_mk1 (shut_bool underlying _), (trodAll_cons_mk (Below.trod laidOut readable22 (of_decide_eq_true (by kernel_rfl)) h0 bel lt0) trodAll_mk0), rfl, bel.frame _, fun h => by cases h⟩
theorem over : Rows.modelOutboxRow.holds Tryz.pinned (OpenSpec.ofChange Rows.modelOutboxSpec) :=
  OpenClaim.holds_of_wide 4 Tryz.f4 rfl rfl rfl rfl rfl rfl rfl ⟨rfl, rfl, rfl, rfl, rfl⟩ rfl rfl rfl rfl rfl (by kernel_rfl) Tryz.func4 (by kernel_rfl)
    (of_decide_eq_true (by kernel_rfl)) (by unfold Func.isWrapper; first | (rw [if_pos (by decide +kernel)]; kernel_rfl) | (rw [if_neg (by decide +kernel)]; exact ⟨rfl, rfl⟩))
    (fun os started H enc _ => lifted os started H enc)
theorem proved : Rows.ModelOutboxSaid := over
end Go.Proofs.YtbkjflfbgknagaaGreat.modelOutbox
namespace Go.Proofs.YtbkjflfbgknagaaGreat
theorem modelOutbox_holds : Rows.ModelOutboxSaid := modelOutbox.proved
#print axioms modelOutbox_holds
end Go.Proofs.YtbkjflfbgknagaaGreat
