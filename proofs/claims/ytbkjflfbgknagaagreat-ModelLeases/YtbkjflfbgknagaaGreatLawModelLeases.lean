/- The law ModelLeases holds of the given program: for any arguments its code returns true and turns nothing that was there; the arguments read as they did. -/
import Derived.Test.YtbkjflfbgknagaaGreatRows
import Derived.Test.YtbkjflfbgknagaaGreatFunModelLeases
import Derived.Test.YtbkjflfbgknagaaGreatPureModelLeases
import Derived.WalkKit
import Derived.ProofKit
import Derived.OpenShut
import Derived.ShutString
import Derived.ChangeOld
import Derived.Carry
import Derived.SizedLaws
namespace Go.Proofs.YtbkjflfbgknagaaGreat.modelLeases
open Go.ChangeShapes Go.WideShapes Go.ChangeAt Go.RowKit Go.Am _root_.Go.Proofs.YtbkjflfbgknagaaGreat.modelLeases.Code
set_option linter.unusedVariables false
theorem own : ownKnob Tryz.prog.godebug = none := by kernel_rfl
theorem laidOut : laidOutB Tryz.prog = true := by kernel_rfl
theorem shA (w : AV) (l : List AV) : bB (w :: l) = bB [w] ++ bB l := by cases w <;> rfl
theorem underlying : Tryz.prog.underlying ((Tryz.f3.resultTypes.getD 0 0)) = some .bool := by kernel_rfl
theorem TB : je Tryz.prog 8 22 = true := by kernel_rfl
theorem TC : yE Tryz.prog 8 22 = some ((.row (af))) := by kernel_rfl
theorem Kk : Tryz.prog.readableRec 22 = true := by kernel_rfl
set_option maxRecDepth 100000 in
theorem lifted (os : Os) (started : os.Started) (H : Type) (enc : TypeId × Value → H) :
    ReturnsInHanded {} Tryz.checked os 3 .any (Rows.modelLeasesSpec.pre6 enc Tryz.prog Tryz.f3 Rows.modelLeasesRow.domain false) (Rows.modelLeasesSpec.post enc Tryz.prog Tryz.f3 false true false false) := by
  refine returnsInHanded_of_change_sized (C := Tryz.checked) own started (by kernel_rfl) Tryz.func3
    (ChangeSpec.witness6 (enc := enc) (C := Tryz.checked) false ⟨#[], #[.slice none 0 0], []⟩ 8 (by kernel_rfl) (by kernel_rfl) (by kernel_rfl) (by kernel_rfl)) ?_
  intro W base args ds gs before hval0 hW hcnd hsz0 _
  have hval : ∀ (j : Nat) t v, Tryz.f3.params[j]? = some t → args[j]? = some v → Value.okWide Tryz.prog W .any base t v := hval0
  have hW' := hW
  obtain ⟨p, q, hA0, hV, rfl, hfz, hnd⟩ := hW
  have hA : DataW.TrodAll enc Tryz.prog W 0 (fun _ => true) true Tryz.f3.params.toList args.toList ds p := hA0
  rw [Tryz.params3] at hA hval
  obtain ⟨v0, vs0, d0, ds0, p0, q0, hargs, rfl, rfl, h0, r0⟩ := trodAll_cons hA
  obtain ⟨rfl, rfl, rfl⟩ := trodAll_nil r0
  obtain rfl : args = #[v0] := by cases args; simp_all
  obtain ⟨rfl, rfl⟩ := trodVars_none hV
  obtain ⟨x0, w0, e0, o0, k0, s0⟩ := Uj TB TC (hval 0 22 v0 rfl rfl) h0
  have lt0 : ∀ x ∈ p0, x.block < W.heap.size := by obtain ⟨m, hm⟩ := h0; exact DataW.trod_lt m _ _ _ hm
  clear hA0 hval0 hsz0
  obtain ⟨y, hy, hyt⟩ := Code.pure (x0, ()) ⟨o0, trivial⟩
  have hsh : bB [w0] = K3.as := by
    rw [s0]
    kernel_rfl
  refine (NF k3 rfl rfl rfl hsh ⟨_, _, rfl, e0, rfl⟩ hy hyt W #[v0] (.cons k0 .nil)).mono fun e W' ⟨he, bel⟩ => ?_
  subst he
  exact ⟨_, rfl, _, _, _, [], _, [], hW', trodAll_mk1 (shut_bool underlying _), (trodAll_cons_mk (Below.trod laidOut Kk (of_decide_eq_true (by kernel_rfl)) h0 bel lt0) trodAll_mk0), rfl, bel.frame _, fun h => by cases h⟩
theorem over : Rows.modelLeasesRow.holds Tryz.pinned (OpenSpec.ofChange Rows.modelLeasesSpec) :=
  OpenClaim.holds_of_wide 3 Tryz.f3 rfl rfl rfl rfl rfl rfl rfl ⟨rfl, rfl, rfl, rfl, rfl⟩ rfl rfl rfl rfl rfl (by kernel_rfl) Tryz.func3 (by kernel_rfl)
    (of_decide_eq_true (by kernel_rfl)) (by unfold Func.isWrapper; first | (rw [if_pos (by decide +kernel)]; kernel_rfl) | (rw [if_neg (by decide +kernel)]; exact ⟨rfl, rfl⟩))
    (fun os started H enc _ => lifted os started H enc)
theorem proved : Rows.ModelLeasesSaid := over
end Go.Proofs.YtbkjflfbgknagaaGreat.modelLeases
namespace Go.Proofs.YtbkjflfbgknagaaGreat
theorem modelLeases_holds : Rows.ModelLeasesSaid := modelLeases.proved
#print axioms modelLeases_holds
end Go.Proofs.YtbkjflfbgknagaaGreat
