/- Calls whose answers the runs of the law CoreExclusive take as they were worked out once. -/
import Derived.Test.YtfpllgkcflinbaaNpC
import Derived.Test.YtfpllgkcflinbaaProg
import Derived.KernelRfl
namespace Go.Proofs.Ytfpllgkcflinbaa.coreExclusive
open Nm
theorem kept_alive : topIs Try.prog noS 2000 36 [] (.bool true) = true := by kernel_rfl
noncomputable def tab0 : Nat → List NV → Option NV := addS 36 [] (.bool true) noS
end Go.Proofs.Ytfpllgkcflinbaa.coreExclusive
