/- Runs of the law CoreExclusive on the machine of the file YtfpllgkcflinbaaNpC: at these arguments it returns true. -/
import Derived.Test.YtfpllgkcflinbaaNpC
import Derived.Test.YtfpllgkcflinbaaProg
import Derived.KernelRfl
import Derived.Test.YtfpllgkcflinbaaCoreExclusiveBase
namespace Go.Proofs.Ytfpllgkcflinbaa.coreExclusive
open Nm
theorem run_t_f_ge : topTrue Try.prog tab0 2000 10 [.bool true, .bool false, .int .i64 (.ge 65536)] = true := by kernel_rfl
theorem run_t_f_in : topTrue Try.prog tab0 2000 10 [.bool true, .bool false, .int .i64 (.sym 0 [.mk 1 0 0 65535])] = true := by kernel_rfl
theorem run_f_t_le : topTrue Try.prog tab0 2000 10 [.bool false, .bool true, .int .i64 (.le (-1))] = true := by kernel_rfl
theorem run_f_t_ge : topTrue Try.prog tab0 2000 10 [.bool false, .bool true, .int .i64 (.ge 65536)] = true := by kernel_rfl
end Go.Proofs.Ytfpllgkcflinbaa.coreExclusive
