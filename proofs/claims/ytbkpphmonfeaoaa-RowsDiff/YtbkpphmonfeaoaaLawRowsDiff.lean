/- The law RowsDiff holds of the given program: for any arguments its code returns true and turns nothing that was there; the arguments read as they did. -/
import Derived.Test.YtbkpphmonfeaoaaRows
import Derived.Test.YtbkpphmonfeaoaaFunRowsDiff
import Derived.Test.YtbkpphmonfeaoaaPureRowsDiff
import Derived.WalkKit
import Derived.ProofKit
import Derived.OpenShut
import Derived.ShutString
import Derived.ChangeOld
import Derived.Carry
import Derived.SizedLaws
namespace Go.Proofs.Ytbkpphmonfeaoaa.rowsDiff
open Go.ChangeShapes Go.WideShapes Go.ChangeAt Go.RowKit Go.Am _root_.Go.Proofs.Ytbkpphmonfeaoaa.rowsDiff.Code
set_option linter.unusedVariables false
theorem own : ownKnob Try.prog.godebug = none := by kernel_rfl
theorem laidOut : laidOutB Try.prog = true := by kernel_rfl
theorem shA (w : AV) (l : List AV) : shapeA (w :: l) = shapeA [w] ++ shapeA l := by cases w <;> rfl
theorem underlying : Try.prog.underlying ((Try.f4.resultTypes.getD 0 0)) = some .bool := by kernel_rfl
theorem plain38 : PlainT Try.prog 8 38 = true := by kernel_rfl
theorem shape38 : shP Try.prog 8 38 = some ((.row (sPair))) := by kernel_rfl
theorem readable38 : Try.prog.readableRec 38 = true := by kernel_rfl
theorem plain22 : PlainT Try.prog 8 22 = true := by kernel_rfl
theorem shape22 : shP Try.prog 8 22 = some ((.row (sOp))) := by kernel_rfl
theorem readable22 : Try.prog.readableRec 22 = true := by kernel_rfl
set_option maxRecDepth 100000 in
theorem lifted (os : Os) (started : os.Started) (H : Type) (enc : TypeId × Value → H) :
    ReturnsInHanded {} Try.checked os 4 .any (Rows.rowsDiffSpec.pre6 enc Try.prog Try.f4 Rows.rowsDiffRow.domain false) (Rows.rowsDiffSpec.post enc Try.prog Try.f4 false true false false) := by
  refine returnsInHanded_of_change_sized (C := Try.checked) own started (by kernel_rfl) Try.func4
    (ChangeSpec.witness6 (enc := enc) (C := Try.checked) false ⟨#[], #[.slice none 0 0, .slice none 0 0, .slice none 0 0], []⟩ 8 (by kernel_rfl) (by kernel_rfl) (by kernel_rfl) (by kernel_rfl)) ?_
  intro W base args ds gs before hval0 hW hcnd hsz0 _
  have hval : ∀ (j : Nat) t v, Try.f4.params[j]? = some t → args[j]? = some v → Value.okWide Try.prog W .any base t v := hval0
  have hW' := hW
  obtain ⟨p, q, hA0, hV, rfl, hfz, hnd⟩ := hW
  have hA : DataW.TrodAll enc Try.prog W 0 (fun _ => true) true Try.f4.params.toList args.toList ds p := hA0
  rw [Try.params4] at hA hval
  obtain ⟨v0, vs0, d0, ds0, p0, q0, hargs, rfl, rfl, h0, r0⟩ := trodAll_cons hA
  obtain ⟨v1, vs1, d1, ds1, p1, q1, rfl, rfl, rfl, h1, r1⟩ := trodAll_cons r0
  obtain ⟨v2, vs2, d2, ds2, p2, q2, rfl, rfl, rfl, h2, r2⟩ := trodAll_cons r1
  obtain ⟨rfl, rfl, rfl⟩ := trodAll_nil r2
  obtain rfl : args = #[v0, v1, v2] := by cases args; simp_all
  obtain ⟨rfl, rfl⟩ := trodVars_none hV
  obtain ⟨x0, w0, e0, o0, k0, s0⟩ := arg_re plain38 shape38 (hval 0 38 v0 rfl rfl) h0
  have lt0 : ∀ x ∈ p0, x.block < W.heap.size := by obtain ⟨m, hm⟩ := h0; exact DataW.trod_lt m _ _ _ hm
  obtain ⟨x1, w1, e1, o1, k1, s1⟩ := arg_re plain38 shape38 (hval 1 38 v1 rfl rfl) h1
  have lt1 : ∀ x ∈ p1, x.block < W.heap.size := by obtain ⟨m, hm⟩ := h1; exact DataW.trod_lt m _ _ _ hm
  obtain ⟨x2, w2, e2, o2, k2, s2⟩ := arg_re plain22 shape22 (hval 2 22 v2 rfl rfl) h2
  have lt2 : ∀ x ∈ p2, x.block < W.heap.size := by obtain ⟨m, hm⟩ := h2; exact DataW.trod_lt m _ _ _ hm
  clear hA0 hval0 hsz0
  obtain ⟨y, hy, hyt⟩ := Code.pure (x0, (x1, (x2, ()))) ⟨o0, ⟨o1, ⟨o2, trivial⟩⟩⟩
  have hsh : shapeA [w0, w1, w2] = K4.as := by
    rw [shA w0 [w1, w2], shA w1 [w2], s0, s1, s2]
    kernel_rfl
  refine (law_walk k4 rfl rfl rfl hsh ⟨_, _, rfl, e0, ⟨_, _, rfl, e1, ⟨_, _, rfl, e2, rfl⟩⟩⟩ hy hyt W #[v0, v1, v2] (.cons k0 (.cons k1 (.cons k2 .nil)))).mono fun e W' ⟨he, bel⟩ => ?_
  subst he
  exact ⟨_, rfl, _, _, _, [], _, [], hW', trodAll_mk1 (shut_bool underlying _), (trodAll_cons_mk (Below.trod laidOut readable38 (of_decide_eq_true (by kernel_rfl)) h0 bel lt0) (trodAll_cons_mk (Below.trod laidOut readable38 (of_decide_eq_true (by kernel_rfl)) h1 bel lt1) (trodAll_cons_mk (Below.trod laidOut readable22 (of_decide_eq_true (by kernel_rfl)) h2 bel lt2) trodAll_mk0))), rfl, bel.frame _, fun h => by cases h⟩
theorem over : Rows.rowsDiffRow.holds Try.pinned (OpenSpec.ofChange Rows.rowsDiffSpec) :=
  OpenClaim.holds_of_wide 4 Try.f4 rfl rfl rfl rfl rfl rfl rfl ⟨rfl, rfl, rfl, rfl, rfl⟩ rfl rfl rfl rfl rfl (by kernel_rfl) Try.func4 (by kernel_rfl)
    (of_decide_eq_true (by kernel_rfl)) (by unfold Func.isWrapper; first | (rw [if_pos (by decide +kernel)]; kernel_rfl) | (rw [if_neg (by decide +kernel)]; exact ⟨rfl, rfl⟩))
    (fun os started H enc _ => lifted os started H enc)
theorem proved : Rows.RowsDiffSaid := over
end Go.Proofs.Ytbkpphmonfeaoaa.rowsDiff
namespace Go.Proofs.Ytbkpphmonfeaoaa
theorem rowsDiff_holds : Rows.RowsDiffSaid := rowsDiff.proved
#print axioms rowsDiff_holds
end Go.Proofs.Ytbkpphmonfeaoaa
