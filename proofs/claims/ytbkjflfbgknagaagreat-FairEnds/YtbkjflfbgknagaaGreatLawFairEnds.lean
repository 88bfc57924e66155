/- The law FairEnds holds of the given program: for any arguments its code returns true and turns nothing that was there; the arguments read as they did. -/
import Derived.Test.YtbkjflfbgknagaaGreatRows
import Derived.Test.YtbkjflfbgknagaaGreatFunFairEnds
import Derived.Test.YtbkjflfbgknagaaGreatPureFairEnds
import Derived.WalkKit
import Derived.ProofKit
import Derived.OpenShut
import Derived.ShutString
import Derived.ChangeOld
import Derived.Carry
import Derived.SizedLaws
namespace Go.Proofs.YtbkjflfbgknagaaGreat.fairEnds
open Go.ChangeShapes Go.WideShapes Go.ChangeAt Go.RowKit Go.Am _root_.Go.Proofs.YtbkjflfbgknagaaGreat.fairEnds.Code
set_option linter.unusedVariables false
theorem own : ownKnob Tryz.prog.godebug = none := by kernel_rfl
theorem laidOut : laidOutB Tryz.prog = true := by kernel_rfl
theorem shA (w : AV) (l : List AV) : bz (w :: l) = bz [w] ++ bz l := by cases w <;> rfl
theorem underlying : Tryz.prog.underlying ((Tryz.f9.resultTypes.getD 0 0)) = some .bool := by kernel_rfl
theorem Tl : iB Tryz.prog 8 28 = true := by kernel_rfl
theorem Tm : wq Tryz.prog 8 28 = some (cn) := by kernel_rfl
theorem JQ : Tryz.prog.readableRec 28 = true := by kernel_rfl
theorem Tn : iB Tryz.prog 8 76 = true := by kernel_rfl
theorem To : wq Tryz.prog 8 76 = some ((.row (.b))) := by kernel_rfl
theorem JR : Tryz.prog.readableRec 76 = true := by kernel_rfl
set_option maxRecDepth 100000 in
theorem lifted (os : Os) (started : os.Started) (H : Type) (enc : TypeId × Value → H) :
    ReturnsInHanded {} Tryz.checked os 9 .any (Rows.fairEndsSpec.pre6 enc Tryz.prog Tryz.f9 Rows.fairEndsRow.domain false) (Rows.fairEndsSpec.post enc Tryz.prog Tryz.f9 false true false false) := by
  refine returnsInHanded_of_change_sized (C := Tryz.checked) own started (by kernel_rfl) Tryz.func9
    (ChangeSpec.witness6 (enc := enc) (C := Tryz.checked) false ⟨#[], #[.agg #[.int .i64 0, .int .i64 0, .int .i64 0, .int .i64 0, .int .i64 0, .int .i64 0, .slice none 0 0, .slice none 0 0], .slice none 0 0], []⟩ 8 (by kernel_rfl) (by kernel_rfl) (by kernel_rfl) (by kernel_rfl)) ?_
  intro W base args ds gs before hval0 hW hcnd hsz0 _
  have hval : ∀ (j : Nat) t v, Tryz.f9.params[j]? = some t → args[j]? = some v → Value.okWide Tryz.prog W .any base t v := hval0
  have hW' := hW
  obtain ⟨p, q, hA0, hV, rfl, hfz, hnd⟩ := hW
  have hA : DataW.TrodAll enc Tryz.prog W 0 (fun _ => true) true Tryz.f9.params.toList args.toList ds p := hA0
  rw [Tryz.params9] at hA hval
  obtain ⟨v0, vs0, d0, ds0, p0, q0, hargs, rfl, rfl, h0, r0⟩ := trodAll_cons hA
  obtain ⟨v1, vs1, d1, ds1, p1, q1, rfl, rfl, rfl, h1, r1⟩ := trodAll_cons r0
  obtain ⟨rfl, rfl, rfl⟩ := trodAll_nil r1
  obtain rfl : args = #[v0, v1] := by cases args; simp_all
  obtain ⟨rfl, rfl⟩ := trodVars_none hV
  obtain ⟨x0, w0, e0, o0, k0, s0⟩ := KO Tl Tm (hval 0 28 v0 rfl rfl) h0
  have lt0 : ∀ x ∈ p0, x.block < W.heap.size := by obtain ⟨m, hm⟩ := h0; exact DataW.trod_lt m _ _ _ hm
  obtain ⟨x1, w1, e1, o1, k1, s1⟩ := KO Tn To (hval 1 76 v1 rfl rfl) h1
  have mI : ∀ x ∈ p1, x.block < W.heap.size := by obtain ⟨m, hm⟩ := h1; exact DataW.trod_lt m _ _ _ hm
  clear hA0 hval0 hsz0
  obtain ⟨y, hy, hyt⟩ := Code.pure (x0, (x1, ())) ⟨o0, ⟨o1, trivial⟩⟩
  have hsh : bz [w0, w1] = K9.as := by
    rw [shA w0 [w1], s0, s1]
    kernel_rfl
  refine (MG k9 rfl rfl rfl hsh ⟨_, _, rfl, e0, ⟨_, _, rfl, e1, rfl⟩⟩ hy hyt W #[v0, v1] (.cons k0 (.cons k1 .nil))).mono fun e W' ⟨he, bel⟩ => ?_
  subst he
  exact ⟨_, rfl, _, _, _, [], _, [], hW', trodAll_mk1 (shut_bool underlying _), (trodAll_cons_mk (Below.trod laidOut JQ (of_decide_eq_true (by kernel_rfl)) h0 bel lt0) (trodAll_cons_mk (Below.trod laidOut JR (of_decide_eq_true (by kernel_rfl)) h1 bel mI) trodAll_mk0)), rfl, bel.frame _, fun h => by cases h⟩
theorem over : Rows.fairEndsRow.holds Tryz.pinned (OpenSpec.ofChange Rows.fairEndsSpec) :=
  OpenClaim.holds_of_wide 9 Tryz.f9 rfl rfl rfl rfl rfl rfl rfl ⟨rfl, rfl, rfl, rfl, rfl⟩ rfl rfl rfl rfl rfl (by kernel_rfl) Tryz.func9 (by kernel_rfl)
    (of_decide_eq_true (by kernel_rfl)) (by unfold Func.isWrapper; first | (rw [if_pos (by decide +kernel)]; kernel_rfl) | (rw [if_neg (by decide +kernel)]; exact ⟨rfl, rfl⟩))
    (fun os started H enc _ => lifted os started H enc)
theorem proved : Rows.FairEndsSaid := over
end Go.Proofs.YtbkjflfbgknagaaGreat.fairEnds
namespace Go.Proofs.YtbkjflfbgknagaaGreat
theorem fairEnds_holds : Rows.FairEndsSaid := fairEnds.proved
#print axioms fairEnds_holds
end Go.Proofs.YtbkjflfbgknagaaGreat
