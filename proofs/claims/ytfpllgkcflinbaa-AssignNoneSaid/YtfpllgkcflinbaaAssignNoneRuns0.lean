/- Runs of the law AssignNone on the machine of the file YtfpllgkcflinbaaNnC: at these arguments it returns true. -/
import Derived.Test.YtfpllgkcflinbaaNnC
import Derived.Test.YtfpllgkcflinbaaProg
import Derived.KernelRfl
import Derived.Test.YtfpllgkcflinbaaAssignNoneBase
namespace Go.Proofs.Ytfpllgkcflinbaa.assignNone
open Nm
theorem run_le : topTrue Try.prog tab0 2000 6 [.int .i64 (.le (-1))] = true := by kernel_rfl
theorem run_ge : topTrue Try.prog tab0 2000 6 [.int .i64 (.ge (101))] = true := by kernel_rfl
theorem run_0 : topTrue Try.prog tab0 2000 6 [.int .i64 (.lit (0))] = true := by kernel_rfl
theorem run_1 : topTrue Try.prog tab0 2000 6 [.int .i64 (.lit (1))] = true := by kernel_rfl
theorem run_2 : topTrue Try.prog tab0 2000 6 [.int .i64 (.lit (2))] = true := by kernel_rfl
theorem run_3 : topTrue Try.prog tab0 2000 6 [.int .i64 (.lit (3))] = true := by kernel_rfl
theorem run_4 : topTrue Try.prog tab0 2000 6 [.int .i64 (.lit (4))] = true := by kernel_rfl
theorem run_5 : topTrue Try.prog tab0 2000 6 [.int .i64 (.lit (5))] = true := by kernel_rfl
theorem run_6 : topTrue Try.prog tab0 2000 6 [.int .i64 (.lit (6))] = true := by kernel_rfl
theorem run_7 : topTrue Try.prog tab0 2000 6 [.int .i64 (.lit (7))] = true := by kernel_rfl
theorem run_8 : topTrue Try.prog tab0 2000 6 [.int .i64 (.lit (8))] = true := by kernel_rfl
theorem run_9 : topTrue Try.prog tab0 2000 6 [.int .i64 (.lit (9))] = true := by kernel_rfl
end Go.Proofs.Ytfpllgkcflinbaa.assignNone
