/- What the law's code computes. -/
import Derived.Test.YtmflaabbfdnfdaaGreatTieModelNames
import Derived.KernelRfl
set_option maxRecDepth 100000
namespace Go.Proofs.YtmflaabbfdnfdaaGreat.modelNames.Code
open Go Go.Am
theorem value : cpK cfg (evalK cfg 300) 3 [] (fun r => some (.nm, ⟨[(0, r)], [], 0, 0⟩)) = some (.nm, ⟨[(0, .bl true)], [], 0, 0⟩) := by kernel_rfl
theorem pure : PureOk Tryz.prog 3 [] (.bl true) := evalP_ok orders cfg_ok (evalP_of value)
end Go.Proofs.YtmflaabbfdnfdaaGreat.modelNames.Code
