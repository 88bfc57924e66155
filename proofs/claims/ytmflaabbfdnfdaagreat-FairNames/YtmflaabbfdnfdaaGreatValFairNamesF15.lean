/- What a function of the law computes. -/
import Derived.Test.YtmflaabbfdnfdaaGreatTieFairNames
import Derived.KernelRfl
set_option maxRecDepth 100000
namespace Go.Proofs.YtmflaabbfdnfdaaGreat.fairNames.Code
open Go Go.Am
theorem value15 : cpK cfg (evalK cfg 300) 15 [] (fun r => some (.nm, ⟨[(0, r)], [], 0, 0⟩)) = some (.nm, ⟨[(0, .bl true)], [], 0, 0⟩) := by kernel_rfl
theorem both15 : Ent Tryz.prog 15 ∧ PureOk Tryz.prog 15 [] (.bl true) := evalP_both orders cfg_ok (evalP_of value15)
end Go.Proofs.YtmflaabbfdnfdaaGreat.fairNames.Code
