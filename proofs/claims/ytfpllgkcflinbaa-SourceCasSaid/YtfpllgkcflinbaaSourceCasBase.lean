/- Calls whose answers the runs of the law SourceCas take as they were worked out once. -/
import Derived.Test.YtfpllgkcflinbaaNpC
import Derived.Test.YtfpllgkcflinbaaProg
import Derived.KernelRfl
namespace Go.Proofs.Ytfpllgkcflinbaa.sourceCas
open Nm
theorem kept_alive : topIs Try.prog noS 2000 28 [] (.bool true) = true := by kernel_rfl
noncomputable def tab0 : Nat → List NV → Option NV := addS 28 [] (.bool true) noS
end Go.Proofs.Ytfpllgkcflinbaa.sourceCas
