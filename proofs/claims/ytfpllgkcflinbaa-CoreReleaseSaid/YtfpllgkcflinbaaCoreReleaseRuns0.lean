/- Runs of the law CoreRelease on the machine of the file YtfpllgkcflinbaaNnC: at these arguments it returns true. -/
import Derived.Test.YtfpllgkcflinbaaNnC
import Derived.Test.YtfpllgkcflinbaaProg
import Derived.KernelRfl
import Derived.Test.YtfpllgkcflinbaaCoreReleaseBase
namespace Go.Proofs.Ytfpllgkcflinbaa.coreRelease
open Nm
theorem run_t_t : topTrue Try.prog tab0 2000 14 [.bool true, .bool true] = true := by kernel_rfl
theorem run_t_f : topTrue Try.prog tab0 2000 14 [.bool true, .bool false] = true := by kernel_rfl
theorem run_f_t : topTrue Try.prog tab0 2000 14 [.bool false, .bool true] = true := by kernel_rfl
theorem run_f_f : topTrue Try.prog tab0 2000 14 [.bool false, .bool false] = true := by kernel_rfl
end Go.Proofs.Ytfpllgkcflinbaa.coreRelease
