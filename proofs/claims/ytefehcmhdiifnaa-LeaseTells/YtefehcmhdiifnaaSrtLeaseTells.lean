/- The sort of the kit, laid at the program. -/
import Derived.Test.YtefehcmhdiifnaaDefLeaseTells1
import Derived.KernelRfl
set_option maxRecDepth 100000
set_option linter.unusedVariables false
set_option linter.constructorNameAsVariable false
namespace Go.Proofs
open Go.Shelf Go.RowKit Go.Lib Go.Sort Try
def Try.sort96_ren : Go.Shelf.Ren:=⟨fun|6=>96|15=>123|14=>124|28=>149|29=>150|20=>151|21=>152|22=>153|23=>154|24=>155|25=>156|26=>157|27=>158|46=>172|47=>168|48=>169|49=>173|50=>174|57=>178|n=>n,fun|22=>67|24=>74|25=>149|3=>3|39=>150|0=>0|53=>190|55=>192|4=>4|46=>183|45=>182|50=>123|5=>5|9=>9|66=>206|70=>210|76=>217|77=>97|n=>n,fun|n=>n⟩
theorem Try.sort96 : SlLaysF0.n6 Try.prog Try.sort96_ren:={
 mixed:=by kernel_rfl,f6:=⟨f96.name,by decide,func96.trans (congrArg some (by kernel_rfl))⟩,f14:=⟨f124.name,by decide,func124.trans (congrArg some (by kernel_rfl))⟩,f15:=func123.trans (congrArg some (by kernel_rfl)),f20:=⟨f151.name,by decide,func151.trans (congrArg some (by kernel_rfl))⟩,f21:=⟨f152.name,by decide,func152.trans (congrArg some (by kernel_rfl))⟩,f22:=⟨f153.name,by decide,func153.trans (congrArg some (by kernel_rfl))⟩,f23:=⟨f154.name,by decide,func154.trans (congrArg some (by kernel_rfl))⟩,f24:=⟨f155.name,by decide,func155.trans (congrArg some (by kernel_rfl))⟩,f25:=⟨f156.name,by decide,func156.trans (congrArg some (by kernel_rfl))⟩,f26:=⟨f157.name,by decide,func157.trans (congrArg some (by kernel_rfl))⟩,f27:=⟨f158.name,by decide,func158.trans (congrArg some (by kernel_rfl))⟩,f28:=func149.trans (congrArg some (by kernel_rfl)),f29:=func150.trans (congrArg some (by kernel_rfl)),f46:=⟨f172.name,by decide,func172.trans (congrArg some (by kernel_rfl))⟩,f47:=func168.trans (congrArg some (by kernel_rfl)),f48:=func169.trans (congrArg some (by kernel_rfl)),f49:=⟨f173.name,by decide,func173.trans (congrArg some (by kernel_rfl))⟩,f50:=⟨f174.name,by decide,func174.trans (congrArg some (by kernel_rfl))⟩,f57:=⟨f178.name,by decide,func178.trans (congrArg some (by kernel_rfl))⟩,t0:=underlying0,a0:=isAgg0,z0:=sizeOf0,v0:=zeroValue0,t3:=underlying3,a3:=isAgg3,z3:=sizeOf3,v3:=zeroValue3,t4:=underlying4,a4:=isAgg4,z4:=sizeOf4,v4:=zeroValue4,t5:=underlying5,a5:=isAgg5,z5:=sizeOf5,
 v5:=zeroValue5,t9:=underlying9,a9:=isAgg9,z9:=sizeOf9,v9:=zeroValue9,t22:=underlying67,a22:=isAgg67,z22:=sizeOf67,v22:=zeroValue67,t25:=underlying149,a25:=isAgg149,z25:=sizeOf149,v25:=zeroValue149,t39:=underlying150,a39:=isAgg150,z39:=sizeOf150,v39:=zeroValue150,t45:=underlying182,a45:=isAgg182,z45:=sizeOf182,v45:=zeroValue182,t46:=underlying183,a46:=isAgg183,z46:=sizeOf183,v46:=zeroValue183,t50:=underlying123,a50:=isAgg123,z50:=sizeOf123,v50:=zeroValue123,t53:=underlying190,a53:=isAgg190,z53:=sizeOf190,v53:=zeroValue190,t55:=underlying192,a55:=isAgg192,z55:=sizeOf192,v55:=zeroValue192,t66:=underlying206,a66:=isAgg206,z66:=sizeOf206,v66:=zeroValue206,t70:=underlying210,a70:=isAgg210,z70:=sizeOf210,v70:=zeroValue210,t76:=underlying217,a76:=isAgg217,z76:=sizeOf217,v76:=zeroValue217,t77:=underlying97,a77:=isAgg97,z77:=sizeOf97,v77:=zeroValue97}
end Go.Proofs
namespace Go.Proofs.Ytefehcmhdiifnaa.leaseTells.Code
open Go Go.Am
set_option linter.unusedSimpArgs false
theorem cmp69 (a b : Int) : Cmp.F69 (a, b, ()) = some (if a < b then Int.negSucc 0 else if a > b then Int.ofNat 1 else Int.ofNat 0, ()) := by
  simp only [Cmp.F69, Cmp.F99, Option.bind_some]
  rw [show (a != a) = false by simp, show (b != b) = false by simp]
  simp only [cond_false]
  by_cases h : a < b
  · rw [decide_eq_true h, if_pos h]; rfl
  · rw [decide_eq_false h, if_neg h]
    by_cases h2 : a > b
    · rw [decide_eq_true h2, if_pos h2]; rfl
    · rw [decide_eq_false h2, if_neg h2]; rfl

theorem or98 (l : List Int) (hl : l.length ≤ 9223372036854775807) : Cmp.F98 (l, ()) = some ((match foldE (A := Unit) (Y := (Int × Unit) ⊕ (Int × Unit)) (fun _ t _ => bif t != Int.ofNat 0 then .inr (.inl (t, ())) else .inl ()) (fun _ => .inr (Int.ofNat 0, ())) 0 l () with | .inl a => a.1 | .inr b => b.1), ()) := by
  have hloop := loopF_list0 (st := Cmp.L98_1006272t) l (dft (Sh.i IntKind.i64)) (fun i (_ : Unit) => (Int.ofNat 0, l, (l.length : Int), (i : Int), ())) (fun _ => .inr (Int.ofNat 0, ())) (fun _ t _ => bif t != Int.ofNat 0 then .inr (.inl (t, ())) else .inl ())
    (fun i a hi => by
      simp only [Cmp.L98_1006272t, Cmp.L98_1006272s0, rg_lt hi, rg_in hi, rg_nat hi, cond_true]
      exact br_match _ _ _ _ (fun _ => rfl) (fun _ => by rw [rg_wrap (by omega)]))
    (fun a => by simp only [Cmp.L98_1006272t, Cmp.L98_1006272s0, rg_end, cond_false]) ()
  have hl0 : Cmp.L98_1006272 (Int.ofNat 0, l, (l.length : Int), Int.ofNat 0, ()) = some _ := hloop
  simp only [Cmp.F98, hl0, Option.bind_some]
  split <;> (rename_i h; simp only [h])
def sgn3 (a b : Int) : Int := if a < b then Int.negSucc 0 else if a > b then Int.ofNat 1 else Int.ofNat 0
/-- How places compare. -/
def cmpP (x y : Int × Int × Int × Unit) : Int :=
  if sgn3 x.2.2.1 y.2.2.1 ≠ 0 then sgn3 x.2.2.1 y.2.2.1 else if sgn3 x.1 y.1 ≠ 0 then sgn3 x.1 y.1 else sgn3 x.2.1 y.2.1
theorem f97 (x y : Int × Int × Int × Unit) : Cmp.F97 (x, y, ()) = some (cmpP x y, ()) := by
  simp only [Cmp.F97, cmp69, Option.bind_some]
  have h := or98 [sgn3 x.2.2.1 y.2.2.1, sgn3 x.1 y.1, sgn3 x.2.1 y.2.1] (by simp)
  have h' : Cmp.F98 (List.take ((((List.replicate 3 (Int.ofNat 0)).set 0 (if x.2.2.1 < y.2.2.1 then Int.negSucc 0 else if x.2.2.1 > y.2.2.1 then Int.ofNat 1 else Int.ofNat 0)).set 1 (if x.1 < y.1 then Int.negSucc 0 else if x.1 > y.1 then Int.ofNat 1 else Int.ofNat 0)).set 2 (if x.2.1 < y.2.1 then Int.negSucc 0 else if x.2.1 > y.2.1 then Int.ofNat 1 else Int.ofNat 0)).length (List.drop 0 ((((List.replicate 3 (Int.ofNat 0)).set 0 (if x.2.2.1 < y.2.2.1 then Int.negSucc 0 else if x.2.2.1 > y.2.2.1 then Int.ofNat 1 else Int.ofNat 0)).set 1 (if x.1 < y.1 then Int.negSucc 0 else if x.1 > y.1 then Int.ofNat 1 else Int.ofNat 0)).set 2 (if x.2.1 < y.2.1 then Int.negSucc 0 else if x.2.1 > y.2.1 then Int.ofNat 1 else Int.ofNat 0))), ()) = some _ := h
  rw [h']
  simp only [Option.bind_some, foldE, cmpP]
  congr 2
  rcases h1 : (sgn3 x.2.2.1 y.2.2.1 != Int.ofNat 0) with _ | _ <;> rcases h2 : (sgn3 x.1 y.1 != Int.ofNat 0) with _ | _ <;> rcases h3 : (sgn3 x.2.1 y.2.1 != Int.ofNat 0) with _ | _ <;> simp_all

theorem cf97 (x y : Int × Int × Int × Unit) : cfOf (s := sPlace) Cmp.F97 x y = cmpP x y := by
  show (match Cmp.F97 (x, y, ()) with | some r => r.1 | none => 0) = _
  rw [f97]
theorem tot97 (x y : Den sPlace) : Cmp.F97 (x, y, ()) = some (cfOf (s := sPlace) Cmp.F97 x y, ()) := by rw [cf97]; exact f97 x y
theorem cmpP_neg (x y : Int × Int × Int × Unit) : cmpP x y < 0 ↔ x.2.2.1 < y.2.2.1 ∨ x.2.2.1 = y.2.2.1 ∧ (x.1 < y.1 ∨ x.1 = y.1 ∧ x.2.1 < y.2.1) := by
  unfold cmpP sgn3
  have e1 : Int.ofNat 0 = 0 := rfl
  have e2 : Int.ofNat 1 = 1 := rfl
  have e3 : Int.negSucc 0 = -1 := rfl
  rw [e1, e2, e3]
  repeat' split
  all_goals omega
theorem lexT (a b c d e f g h i : Int) (h1 : a < d ∨ a = d ∧ (b < e ∨ b = e ∧ c < f)) (h2 : d < g ∨ d = g ∧ (e < h ∨ e = h ∧ f < i)) : a < g ∨ a = g ∧ (b < h ∨ b = h ∧ c < i) := by omega
theorem lexN (a b c d e f g h i : Int) (h1 : ¬ (a < d ∨ a = d ∧ (b < e ∨ b = e ∧ c < f))) (h2 : ¬ (d < g ∨ d = g ∧ (e < h ∨ e = h ∧ f < i))) : ¬ (a < g ∨ a = g ∧ (b < h ∨ b = h ∧ c < i)) := by omega
open Go.Sort Go.Proofs in
theorem swo97 : SWO (ltOf (cfOf (s := sPlace) Cmp.F97)) := by
  have h : ∀ x y, ltOf (cfOf (s := sPlace) Cmp.F97) x y = decide (x.2.2.1 < y.2.2.1 ∨ x.2.2.1 = y.2.2.1 ∧ (x.1 < y.1 ∨ x.1 = y.1 ∧ x.2.1 < y.2.1)) := fun x y => by
    unfold ltOf
    rw [cf97]
    exact decide_eq_decide.2 (cmpP_neg x y)
  refine ⟨fun x => ?_, fun x y z h1 h2 => ?_, fun x y z h1 h2 => ?_⟩
  · rw [h]; simp
  · rw [h] at *; simp only [decide_eq_true_eq] at *; exact lexT _ _ _ _ _ _ _ _ _ h1 h2
  · rw [h] at *; simp only [decide_eq_false_iff_not] at *; exact lexN _ _ _ _ _ _ _ _ _ h1 h2
theorem eg97 : ∀ args w, (callFunc 97 args).run Try.prog w = .ok (.enter 97 args) w := enters_of Try.func97 (by kernel_rfl) rfl
theorem ent96 : Ent Try.prog 96 := ⟨_, _, Try.func96, by kernel_rfl, rfl⟩
theorem st96 : StOk Try.prog 96 ⟨sPlace, 97, G96⟩ := sort_ok (ρ := Try.sort96_ren) Try.sort96 ent96 (s := sPlace) rfl Try.isAgg74 Try.sizeOf74 (cfOf Cmp.F97) swo97 (by decide) eg97 Cmp.k97 tot97
noncomputable def wts : List (Nat × Wrt) := [(96, ⟨sPlace, 97, G96⟩)]
theorem wts_ok : WtsOk Try.prog wts := ⟨st96, trivial⟩
end Go.Proofs.Ytefehcmhdiifnaa.leaseTells.Code
