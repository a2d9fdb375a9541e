/- Calls whose answers the runs of the law ParseDeep take as they were worked out once. -/
import Derived.Test.YtmclfljfkglenaaNqC
import Derived.Test.YtmclfljfkglenaaProg
import Derived.KernelRfl
import Derived.Test.YtmclfljfkglenaaParseDeepc
namespace Go.Proofs.Ytmclfljfkglenaa.parseDeep
open Nm
theorem kept_alive : topIs code noS 2000 4 [] (.bool true) = true := by kernel_rfl
noncomputable def tab0 : Nat → List NV → Option NV := addS 4 [] (.bool true) noS
end Go.Proofs.Ytmclfljfkglenaa.parseDeep
