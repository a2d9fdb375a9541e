/- Runs of the law CoreForwards on the machine of the file YtfpllgkcflinbaaNpC: at these arguments it returns true. -/
import Derived.Test.YtfpllgkcflinbaaNpC
import Derived.Test.YtfpllgkcflinbaaProg
import Derived.KernelRfl
import Derived.Test.YtfpllgkcflinbaaCoreForwardsBase
namespace Go.Proofs.Ytfpllgkcflinbaa.coreForwards
open Nm
theorem run_t_7 : topTrue Try.prog tab0 2000 15 [.int .u64 (.sym 0 [.mk 1 0 0 65535, .mk 65536 1 0 281474976710655]), .bool true, .int .i64 (.lit (7))] = true := by kernel_rfl
theorem run_f_le : topTrue Try.prog tab0 2000 15 [.int .u64 (.sym 0 [.mk 1 0 0 65535, .mk 65536 1 0 281474976710655]), .bool false, .int .i64 (.le (-1))] = true := by kernel_rfl
theorem run_f_ge : topTrue Try.prog tab0 2000 15 [.int .u64 (.sym 0 [.mk 1 0 0 65535, .mk 65536 1 0 281474976710655]), .bool false, .int .i64 (.ge 8)] = true := by kernel_rfl
end Go.Proofs.Ytfpllgkcflinbaa.coreForwards
