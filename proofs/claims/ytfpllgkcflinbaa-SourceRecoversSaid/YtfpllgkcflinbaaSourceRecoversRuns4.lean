/- Runs of the law SourceRecovers on the machine of the file YtfpllgkcflinbaaNnC: at these arguments it returns true. -/
import Derived.Test.YtfpllgkcflinbaaNnC
import Derived.Test.YtfpllgkcflinbaaProg
import Derived.KernelRfl
import Derived.Test.YtfpllgkcflinbaaSourceRecoversBase
namespace Go.Proofs.Ytfpllgkcflinbaa.sourceRecovers
open Nm
theorem run_2_2 : topTrue Try.prog tab0 2000 9 [.int .i64 (.lit (2)), .int .i64 (.lit (2))] = true := by kernel_rfl
theorem run_2_3 : topTrue Try.prog tab0 2000 9 [.int .i64 (.lit (2)), .int .i64 (.lit (3))] = true := by kernel_rfl
theorem run_2_4 : topTrue Try.prog tab0 2000 9 [.int .i64 (.lit (2)), .int .i64 (.lit (4))] = true := by kernel_rfl
theorem run_2_5 : topTrue Try.prog tab0 2000 9 [.int .i64 (.lit (2)), .int .i64 (.lit (5))] = true := by kernel_rfl
theorem run_3_le : topTrue Try.prog tab0 2000 9 [.int .i64 (.lit (3)), .int .i64 (.le (-1))] = true := by kernel_rfl
theorem run_3_ge : topTrue Try.prog tab0 2000 9 [.int .i64 (.lit (3)), .int .i64 (.ge (6))] = true := by kernel_rfl
theorem run_3_0 : topTrue Try.prog tab0 2000 9 [.int .i64 (.lit (3)), .int .i64 (.lit (0))] = true := by kernel_rfl
theorem run_3_1 : topTrue Try.prog tab0 2000 9 [.int .i64 (.lit (3)), .int .i64 (.lit (1))] = true := by kernel_rfl
theorem run_3_2 : topTrue Try.prog tab0 2000 9 [.int .i64 (.lit (3)), .int .i64 (.lit (2))] = true := by kernel_rfl
end Go.Proofs.Ytfpllgkcflinbaa.sourceRecovers
