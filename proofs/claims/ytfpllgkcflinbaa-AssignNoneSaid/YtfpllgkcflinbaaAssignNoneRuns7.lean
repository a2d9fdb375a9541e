/- Runs of the law AssignNone on the machine of the file YtfpllgkcflinbaaNnC: at these arguments it returns true. -/
import Derived.Test.YtfpllgkcflinbaaNnC
import Derived.Test.YtfpllgkcflinbaaProg
import Derived.KernelRfl
import Derived.Test.YtfpllgkcflinbaaAssignNoneBase
namespace Go.Proofs.Ytfpllgkcflinbaa.assignNone
open Nm
theorem run_82 : topTrue Try.prog tab0 2000 6 [.int .i64 (.lit (82))] = true := by kernel_rfl
theorem run_83 : topTrue Try.prog tab0 2000 6 [.int .i64 (.lit (83))] = true := by kernel_rfl
theorem run_84 : topTrue Try.prog tab0 2000 6 [.int .i64 (.lit (84))] = true := by kernel_rfl
theorem run_85 : topTrue Try.prog tab0 2000 6 [.int .i64 (.lit (85))] = true := by kernel_rfl
theorem run_86 : topTrue Try.prog tab0 2000 6 [.int .i64 (.lit (86))] = true := by kernel_rfl
theorem run_87 : topTrue Try.prog tab0 2000 6 [.int .i64 (.lit (87))] = true := by kernel_rfl
theorem run_88 : topTrue Try.prog tab0 2000 6 [.int .i64 (.lit (88))] = true := by kernel_rfl
theorem run_89 : topTrue Try.prog tab0 2000 6 [.int .i64 (.lit (89))] = true := by kernel_rfl
theorem run_90 : topTrue Try.prog tab0 2000 6 [.int .i64 (.lit (90))] = true := by kernel_rfl
theorem run_91 : topTrue Try.prog tab0 2000 6 [.int .i64 (.lit (91))] = true := by kernel_rfl
theorem run_92 : topTrue Try.prog tab0 2000 6 [.int .i64 (.lit (92))] = true := by kernel_rfl
theorem run_93 : topTrue Try.prog tab0 2000 6 [.int .i64 (.lit (93))] = true := by kernel_rfl
end Go.Proofs.Ytfpllgkcflinbaa.assignNone
