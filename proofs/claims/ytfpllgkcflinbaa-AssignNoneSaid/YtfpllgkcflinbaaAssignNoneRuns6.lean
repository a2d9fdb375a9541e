/- Runs of the law AssignNone on the machine of the file YtfpllgkcflinbaaNnC: at these arguments it returns true. -/
import Derived.Test.YtfpllgkcflinbaaNnC
import Derived.Test.YtfpllgkcflinbaaProg
import Derived.KernelRfl
import Derived.Test.YtfpllgkcflinbaaAssignNoneBase
namespace Go.Proofs.Ytfpllgkcflinbaa.assignNone
open Nm
theorem run_70 : topTrue Try.prog tab0 2000 6 [.int .i64 (.lit (70))] = true := by kernel_rfl
theorem run_71 : topTrue Try.prog tab0 2000 6 [.int .i64 (.lit (71))] = true := by kernel_rfl
theorem run_72 : topTrue Try.prog tab0 2000 6 [.int .i64 (.lit (72))] = true := by kernel_rfl
theorem run_73 : topTrue Try.prog tab0 2000 6 [.int .i64 (.lit (73))] = true := by kernel_rfl
theorem run_74 : topTrue Try.prog tab0 2000 6 [.int .i64 (.lit (74))] = true := by kernel_rfl
theorem run_75 : topTrue Try.prog tab0 2000 6 [.int .i64 (.lit (75))] = true := by kernel_rfl
theorem run_76 : topTrue Try.prog tab0 2000 6 [.int .i64 (.lit (76))] = true := by kernel_rfl
theorem run_77 : topTrue Try.prog tab0 2000 6 [.int .i64 (.lit (77))] = true := by kernel_rfl
theorem run_78 : topTrue Try.prog tab0 2000 6 [.int .i64 (.lit (78))] = true := by kernel_rfl
theorem run_79 : topTrue Try.prog tab0 2000 6 [.int .i64 (.lit (79))] = true := by kernel_rfl
theorem run_80 : topTrue Try.prog tab0 2000 6 [.int .i64 (.lit (80))] = true := by kernel_rfl
theorem run_81 : topTrue Try.prog tab0 2000 6 [.int .i64 (.lit (81))] = true := by kernel_rfl
end Go.Proofs.Ytfpllgkcflinbaa.assignNone
