/- What the law's code computes. -/
import Derived.Test.YtmflaabbfdnfdaaGreatTieFairNames
import Derived.Test.YtmflaabbfdnfdaaGreatValFairNamesF15
import Derived.KernelRfl
set_option maxRecDepth 100000
namespace Go.Proofs.YtmflaabbfdnfdaaGreat.fairNames.Code
open Go Go.Am
theorem cfgS_ok : CfgOk Tryz.prog cfgS := cfgOk_told tied rfl rfl fun f hf => by
  simp only [List.mem_cons, List.not_mem_nil, or_false] at hf
  subst hf
  exact both15
theorem value : cpK cfgS (evalK cfgS 300) 4 [] (fun r => some (.nm, ⟨[(0, r)], [], 0, 0⟩)) = some (.nm, ⟨[(0, .bl true)], [], 0, 0⟩) := by kernel_rfl
theorem pure : PureOk Tryz.prog 4 [] (.bl true) := evalP_ok orders cfgS_ok (evalP_of value)
end Go.Proofs.YtmflaabbfdnfdaaGreat.fairNames.Code
