/- Calls whose answers the runs of the law CheckSizes take as they were worked out once. -/
import Derived.Test.YtpgjmiieecdjhaaNnC
import Derived.Test.YtpgjmiieecdjhaaProg
import Derived.KernelRfl
namespace Go.Proofs.Ytpgjmiieecdjhaa.checkSizes
open Nm
theorem kept_alive : topIs Try.prog noS 2000 25 [] (.bool true) = true := by kernel_rfl
noncomputable def tab0 : Nat → List NV → Option NV := addS 25 [] (.bool true) noS
end Go.Proofs.Ytpgjmiieecdjhaa.checkSizes
