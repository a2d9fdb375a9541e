/- Runs of the law AssignNone on the machine of the file YtfpllgkcflinbaaNnC: at these arguments it returns true. -/
import Derived.Test.YtfpllgkcflinbaaNnC
import Derived.Test.YtfpllgkcflinbaaProg
import Derived.KernelRfl
import Derived.Test.YtfpllgkcflinbaaAssignNoneBase
namespace Go.Proofs.Ytfpllgkcflinbaa.assignNone
open Nm
theorem run_22 : topTrue Try.prog tab0 2000 6 [.int .i64 (.lit (22))] = true := by kernel_rfl
theorem run_23 : topTrue Try.prog tab0 2000 6 [.int .i64 (.lit (23))] = true := by kernel_rfl
theorem run_24 : topTrue Try.prog tab0 2000 6 [.int .i64 (.lit (24))] = true := by kernel_rfl
theorem run_25 : topTrue Try.prog tab0 2000 6 [.int .i64 (.lit (25))] = true := by kernel_rfl
theorem run_26 : topTrue Try.prog tab0 2000 6 [.int .i64 (.lit (26))] = true := by kernel_rfl
theorem run_27 : topTrue Try.prog tab0 2000 6 [.int .i64 (.lit (27))] = true := by kernel_rfl
theorem run_28 : topTrue Try.prog tab0 2000 6 [.int .i64 (.lit (28))] = true := by kernel_rfl
theorem run_29 : topTrue Try.prog tab0 2000 6 [.int .i64 (.lit (29))] = true := by kernel_rfl
theorem run_30 : topTrue Try.prog tab0 2000 6 [.int .i64 (.lit (30))] = true := by kernel_rfl
theorem run_31 : topTrue Try.prog tab0 2000 6 [.int .i64 (.lit (31))] = true := by kernel_rfl
theorem run_32 : topTrue Try.prog tab0 2000 6 [.int .i64 (.lit (32))] = true := by kernel_rfl
theorem run_33 : topTrue Try.prog tab0 2000 6 [.int .i64 (.lit (33))] = true := by kernel_rfl
end Go.Proofs.Ytfpllgkcflinbaa.assignNone
