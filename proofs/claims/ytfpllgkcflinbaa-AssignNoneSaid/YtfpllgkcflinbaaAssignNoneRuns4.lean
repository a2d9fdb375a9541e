/- Runs of the law AssignNone on the machine of the file YtfpllgkcflinbaaNnC: at these arguments it returns true. -/
import Derived.Test.YtfpllgkcflinbaaNnC
import Derived.Test.YtfpllgkcflinbaaProg
import Derived.KernelRfl
import Derived.Test.YtfpllgkcflinbaaAssignNoneBase
namespace Go.Proofs.Ytfpllgkcflinbaa.assignNone
open Nm
theorem run_46 : topTrue Try.prog tab0 2000 6 [.int .i64 (.lit (46))] = true := by kernel_rfl
theorem run_47 : topTrue Try.prog tab0 2000 6 [.int .i64 (.lit (47))] = true := by kernel_rfl
theorem run_48 : topTrue Try.prog tab0 2000 6 [.int .i64 (.lit (48))] = true := by kernel_rfl
theorem run_49 : topTrue Try.prog tab0 2000 6 [.int .i64 (.lit (49))] = true := by kernel_rfl
theorem run_50 : topTrue Try.prog tab0 2000 6 [.int .i64 (.lit (50))] = true := by kernel_rfl
theorem run_51 : topTrue Try.prog tab0 2000 6 [.int .i64 (.lit (51))] = true := by kernel_rfl
theorem run_52 : topTrue Try.prog tab0 2000 6 [.int .i64 (.lit (52))] = true := by kernel_rfl
theorem run_53 : topTrue Try.prog tab0 2000 6 [.int .i64 (.lit (53))] = true := by kernel_rfl
theorem run_54 : topTrue Try.prog tab0 2000 6 [.int .i64 (.lit (54))] = true := by kernel_rfl
theorem run_55 : topTrue Try.prog tab0 2000 6 [.int .i64 (.lit (55))] = true := by kernel_rfl
theorem run_56 : topTrue Try.prog tab0 2000 6 [.int .i64 (.lit (56))] = true := by kernel_rfl
theorem run_57 : topTrue Try.prog tab0 2000 6 [.int .i64 (.lit (57))] = true := by kernel_rfl
end Go.Proofs.Ytfpllgkcflinbaa.assignNone
