/- Runs of the law AssignNone on the machine of the file YtfpllgkcflinbaaNnC: at these arguments it returns true. -/
import Derived.Test.YtfpllgkcflinbaaNnC
import Derived.Test.YtfpllgkcflinbaaProg
import Derived.KernelRfl
import Derived.Test.YtfpllgkcflinbaaAssignNoneBase
namespace Go.Proofs.Ytfpllgkcflinbaa.assignNone
open Nm
theorem run_94 : topTrue Try.prog tab0 2000 6 [.int .i64 (.lit (94))] = true := by kernel_rfl
theorem run_95 : topTrue Try.prog tab0 2000 6 [.int .i64 (.lit (95))] = true := by kernel_rfl
theorem run_96 : topTrue Try.prog tab0 2000 6 [.int .i64 (.lit (96))] = true := by kernel_rfl
theorem run_97 : topTrue Try.prog tab0 2000 6 [.int .i64 (.lit (97))] = true := by kernel_rfl
theorem run_98 : topTrue Try.prog tab0 2000 6 [.int .i64 (.lit (98))] = true := by kernel_rfl
theorem run_99 : topTrue Try.prog tab0 2000 6 [.int .i64 (.lit (99))] = true := by kernel_rfl
theorem run_100 : topTrue Try.prog tab0 2000 6 [.int .i64 (.lit (100))] = true := by kernel_rfl
end Go.Proofs.Ytfpllgkcflinbaa.assignNone
