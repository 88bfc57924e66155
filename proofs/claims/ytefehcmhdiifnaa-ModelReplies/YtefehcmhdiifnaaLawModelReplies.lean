/- The law ModelReplies holds of the given program: for any two replies its code returns true and turns nothing that was there; the replies read as they did. -/
import Derived.Test.YtefehcmhdiifnaaRows
import Derived.Test.YtefehcmhdiifnaaPureModelReplies
import Derived.WalkKit
import Derived.ProofKit
import Derived.OpenShut
import Derived.ShutString
import Derived.ChangeOld
import Derived.Carry
import Derived.SizedLaws
namespace Go.Proofs.Ytefehcmhdiifnaa.modelReplies
open Go.ChangeShapes Go.WideShapes Go.ChangeAt Go.RowKit Go.Am
set_option linter.unusedVariables false
theorem own : ownKnob Try.prog.godebug = none := by kernel_rfl
theorem laidOut : laidOutB Try.prog = true := by kernel_rfl
theorem underlying : Try.prog.underlying ((Try.f3.resultTypes.getD 0 0)) = some .bool := by kernel_rfl
theorem plain : PlainT Try.prog 8 31 = true := by kernel_rfl
theorem shape : shOf Try.prog 8 31 = some shReply := by kernel_rfl
theorem isSt : isStruct Try.prog 31 = true := by kernel_rfl
theorem readable : Try.prog.readableRec 31 = true := by kernel_rfl
set_option maxRecDepth 100000 in
theorem lifted (os : Os) (started : os.Started) (H : Type) (enc : TypeId × Value → H) :
    ReturnsInHanded {} Try.checked os 3 .any (Rows.modelRepliesSpec.pre6 enc Try.prog Try.f3 Rows.modelRepliesRow.domain false) (Rows.modelRepliesSpec.post enc Try.prog Try.f3 false true false false) := by
  refine returnsInHanded_of_change_sized (C := Try.checked) own started (by kernel_rfl) Try.func3
    (ChangeSpec.witness6 (enc := enc) (C := Try.checked) false ⟨#[], #[.agg #[.int .i64 0, .int .i64 0, .int .i64 0, .int .i64 0, .int .i64 0, .string ByteArray.empty, .slice none 0 0, .int .u8 0, .slice none 0 0, .slice none 0 0], .agg #[.int .i64 0, .int .i64 0, .int .i64 0, .int .i64 0, .int .i64 0, .string ByteArray.empty, .slice none 0 0, .int .u8 0, .slice none 0 0, .slice none 0 0]], []⟩ 8 (by kernel_rfl) (by kernel_rfl) (by kernel_rfl) (by kernel_rfl)) ?_
  intro W base args ds gs before hval0 hW hcnd hsz0 _
  have hval : ∀ (j : Nat) t v, Try.f3.params[j]? = some t → args[j]? = some v → Value.okWide Try.prog W .any base t v := hval0
  have hW' := hW
  obtain ⟨p, q, hA0, hV, rfl, hfz, hnd⟩ := hW
  have hA : DataW.TrodAll enc Try.prog W 0 (fun _ => true) true Try.f3.params.toList args.toList ds p := hA0
  rw [Try.params3] at hA hval
  obtain ⟨v0, vs0, d0, ds0, p0, q0, hargs, rfl, rfl, h0, r0⟩ := trodAll_cons hA
  obtain ⟨v1, vs1, d1, ds1, p1, q1, rfl, rfl, rfl, h1, r1⟩ := trodAll_cons r0
  obtain ⟨rfl, rfl, rfl⟩ := trodAll_nil r1
  obtain rfl : args = #[v0, v1] := by cases args; simp_all
  obtain ⟨rfl, rfl⟩ := trodVars_none hV
  obtain ⟨c0, e0, k0⟩ := arg_has plain shape isSt (hval 0 31 v0 rfl rfl) h0
  obtain ⟨c1, e1, k1⟩ := arg_has plain shape isSt (hval 1 31 v1 rfl rfl) h1
  have lt0 : ∀ x ∈ p0, x.block < W.heap.size := by obtain ⟨m, hm⟩ := h0; exact DataW.trod_lt m _ _ _ hm
  have lt1 : ∀ x ∈ p1, x.block < W.heap.size := by obtain ⟨m, hm⟩ := h1; exact DataW.trod_lt m _ _ _ hm
  obtain ⟨e, r, t, o, i, ky, A, s, B, C, rfl, hA1, hB1, hC1⟩ := reply_of e0
  obtain ⟨e', r', t', o', i', ky', A', s', B', C', rfl, hA2, hB2, hC2⟩ := reply_of e1
  clear hA0 hval0 hsz0
  refine (args_walk (Code.law hA1 hB1 hA2 hB2 hC1 hC2) W #[v0, v1] (.cons k0 (.cons k1 .nil))).mono fun e W' ⟨he, bel⟩ => ?_
  subst he
  exact ⟨_, rfl, _, _, _, [], _, [], hW', trodAll_mk1 (shut_bool underlying _), (trodAll_cons_mk (Below.trod laidOut readable (of_decide_eq_true (by kernel_rfl)) h0 bel lt0) (trodAll_cons_mk (Below.trod laidOut readable (of_decide_eq_true (by kernel_rfl)) h1 bel lt1) trodAll_mk0)), rfl, bel.frame _, fun h => by cases h⟩
theorem over : Rows.modelRepliesRow.holds Try.pinned (OpenSpec.ofChange Rows.modelRepliesSpec) :=
  OpenClaim.holds_of_wide 3 Try.f3 rfl rfl rfl rfl rfl rfl rfl ⟨rfl, rfl, rfl, rfl, rfl⟩ rfl rfl rfl rfl rfl (by kernel_rfl) Try.func3 (by kernel_rfl)
    (of_decide_eq_true (by kernel_rfl)) (by unfold Func.isWrapper; first | (rw [if_pos (by decide +kernel)]; kernel_rfl) | (rw [if_neg (by decide +kernel)]; exact ⟨rfl, rfl⟩))
    (fun os started H enc _ => lifted os started H enc)
theorem proved : Rows.ModelRepliesSaid := over
end Go.Proofs.Ytefehcmhdiifnaa.modelReplies
namespace Go.Proofs.Ytefehcmhdiifnaa
theorem modelReplies_holds : Rows.ModelRepliesSaid := modelReplies.proved
#print axioms modelReplies_holds
end Go.Proofs.Ytefehcmhdiifnaa
