/- The law LeaseNext holds of the given program: for any arguments its code returns true and turns nothing that was there; the arguments read as they did. -/
import Derived.Test.YtefehcmhdiifnaaRows
import Derived.Test.YtefehcmhdiifnaaFunLeaseNext
import Derived.Test.YtefehcmhdiifnaaPureLeaseNext
import Derived.WalkKit
import Derived.ProofKit
import Derived.OpenShut
import Derived.ShutString
import Derived.ChangeOld
import Derived.Carry
import Derived.SizedLaws
namespace Go.Proofs.Ytefehcmhdiifnaa.leaseNext
open Go.ChangeShapes Go.WideShapes Go.ChangeAt Go.RowKit Go.Am _root_.Go.Proofs.Ytefehcmhdiifnaa.leaseNext.Code
set_option linter.unusedVariables false
theorem own : ownKnob Try.prog.godebug = none := by kernel_rfl
theorem laidOut : laidOutB Try.prog = true := by kernel_rfl
theorem underlying : Try.prog.underlying ((Try.f7.resultTypes.getD 0 0)) = some .bool := by kernel_rfl
theorem plain64 : PlainT Try.prog 8 64 = true := by kernel_rfl
theorem shape64 : shP Try.prog 8 64 = some ((.row (sRun))) := by kernel_rfl
theorem readable64 : Try.prog.readableRec 64 = true := by kernel_rfl
set_option maxRecDepth 100000 in
theorem lifted (os : Os) (started : os.Started) (H : Type) (enc : TypeId × Value → H) :
    ReturnsInHanded {} Try.checked os 7 .any (Rows.leaseNextSpec.pre6 enc Try.prog Try.f7 Rows.leaseNextRow.domain false) (Rows.leaseNextSpec.post enc Try.prog Try.f7 false true false false) := by
  refine returnsInHanded_of_change_sized (C := Try.checked) own started (by kernel_rfl) Try.func7
    (ChangeSpec.witness6 (enc := enc) (C := Try.checked) false ⟨#[], #[.slice none 0 0], []⟩ 8 (by kernel_rfl) (by kernel_rfl) (by kernel_rfl) (by kernel_rfl)) ?_
  intro W base args ds gs before hval0 hW hcnd hsz0 _
  have hval : ∀ (j : Nat) t v, Try.f7.params[j]? = some t → args[j]? = some v → Value.okWide Try.prog W .any base t v := hval0
  have hW' := hW
  obtain ⟨p, q, hA0, hV, rfl, hfz, hnd⟩ := hW
  have hA : DataW.TrodAll enc Try.prog W 0 (fun _ => true) true Try.f7.params.toList args.toList ds p := hA0
  rw [Try.params7] at hA hval
  obtain ⟨v0, vs0, d0, ds0, p0, q0, hargs, rfl, rfl, h0, r0⟩ := trodAll_cons hA
  obtain ⟨rfl, rfl, rfl⟩ := trodAll_nil r0
  obtain rfl : args = #[v0] := by cases args; simp_all
  obtain ⟨rfl, rfl⟩ := trodVars_none hV
  obtain ⟨x0, w0, e0, o0, k0, s0⟩ := arg_re plain64 shape64 (hval 0 64 v0 rfl rfl) h0
  have lt0 : ∀ x ∈ p0, x.block < W.heap.size := by obtain ⟨m, hm⟩ := h0; exact DataW.trod_lt m _ _ _ hm
  clear hA0 hval0 hsz0
  obtain ⟨y, hy, hyt⟩ := Code.pure (x0, ()) ⟨o0, trivial⟩
  have hsh : shapeA [w0] = K7.as := by
    rw [show shapeA [w0] = shapeA [w0] from rfl, s0]
    kernel_rfl
  refine (law_walk k7 rfl rfl rfl hsh ⟨_, _, rfl, e0, rfl⟩ hy hyt W #[v0] (.cons k0 .nil)).mono fun e W' ⟨he, bel⟩ => ?_
  subst he
  exact ⟨_, rfl, _, _, _, [], _, [], hW', trodAll_mk1 (shut_bool underlying _), (trodAll_cons_mk (Below.trod laidOut readable64 (of_decide_eq_true (by kernel_rfl)) h0 bel lt0) trodAll_mk0), rfl, bel.frame _, fun h => by cases h⟩
theorem over : Rows.leaseNextRow.holds Try.pinned (OpenSpec.ofChange Rows.leaseNextSpec) :=
  OpenClaim.holds_of_wide 7 Try.f7 rfl rfl rfl rfl rfl rfl rfl ⟨rfl, rfl, rfl, rfl, rfl⟩ rfl rfl rfl rfl rfl (by kernel_rfl) Try.func7 (by kernel_rfl)
    (of_decide_eq_true (by kernel_rfl)) (by unfold Func.isWrapper; first | (rw [if_pos (by decide +kernel)]; kernel_rfl) | (rw [if_neg (by decide +kernel)]; exact ⟨rfl, rfl⟩))
    (fun os started H enc _ => lifted os started H enc)
theorem proved : Rows.LeaseNextSaid := over
end Go.Proofs.Ytefehcmhdiifnaa.leaseNext
namespace Go.Proofs.Ytefehcmhdiifnaa
theorem leaseNext_holds : Rows.LeaseNextSaid := leaseNext.proved
#print axioms leaseNext_holds
end Go.Proofs.Ytefehcmhdiifnaa
