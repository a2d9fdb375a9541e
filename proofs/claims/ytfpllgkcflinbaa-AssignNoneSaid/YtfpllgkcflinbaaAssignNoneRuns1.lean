/- Runs of the law AssignNone on the machine of the file YtfpllgkcflinbaaNnC: at these arguments it returns true. -/
import Derived.Test.YtfpllgkcflinbaaNnC
import Derived.Test.YtfpllgkcflinbaaProg
import Derived.KernelRfl
import Derived.Test.YtfpllgkcflinbaaAssignNoneBase
namespace Go.Proofs.Ytfpllgkcflinbaa.assignNone
open Nm
theorem run_10 : topTrue Try.prog tab0 2000 6 [.int .i64 (.lit (10))] = true := by kernel_rfl
theorem run_11 : topTrue Try.prog tab0 2000 6 [.int .i64 (.lit (11))] = true := by kernel_rfl
theorem run_12 : topTrue Try.prog tab0 2000 6 [.int .i64 (.lit (12))] = true := by kernel_rfl
theorem run_13 : topTrue Try.prog tab0 2000 6 [.int .i64 (.lit (13))] = true := by kernel_rfl
theorem run_14 : topTrue Try.prog tab0 2000 6 [.int .i64 (.lit (14))] = true := by kernel_rfl
theorem run_15 : topTrue Try.prog tab0 2000 6 [.int .i64 (.lit (15))] = true := by kernel_rfl
theorem run_16 : topTrue Try.prog tab0 2000 6 [.int .i64 (.lit (16))] = true := by kernel_rfl
theorem run_17 : topTrue Try.prog tab0 2000 6 [.int .i64 (.lit (17))] = true := by kernel_rfl
theorem run_18 : topTrue Try.prog tab0 2000 6 [.int .i64 (.lit (18))] = true := by kernel_rfl
theorem run_19 : topTrue Try.prog tab0 2000 6 [.int .i64 (.lit (19))] = true := by kernel_rfl
theorem run_20 : topTrue Try.prog tab0 2000 6 [.int .i64 (.lit (20))] = true := by kernel_rfl
theorem run_21 : topTrue Try.prog tab0 2000 6 [.int .i64 (.lit (21))] = true := by kernel_rfl
end Go.Proofs.Ytfpllgkcflinbaa.assignNone
