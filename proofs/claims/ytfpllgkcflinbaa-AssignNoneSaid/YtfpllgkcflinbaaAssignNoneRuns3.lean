/- Runs of the law AssignNone on the machine of the file YtfpllgkcflinbaaNnC: at these arguments it returns true. -/
import Derived.Test.YtfpllgkcflinbaaNnC
import Derived.Test.YtfpllgkcflinbaaProg
import Derived.KernelRfl
import Derived.Test.YtfpllgkcflinbaaAssignNoneBase
namespace Go.Proofs.Ytfpllgkcflinbaa.assignNone
open Nm
theorem run_34 : topTrue Try.prog tab0 2000 6 [.int .i64 (.lit (34))] = true := by kernel_rfl
theorem run_35 : topTrue Try.prog tab0 2000 6 [.int .i64 (.lit (35))] = true := by kernel_rfl
theorem run_36 : topTrue Try.prog tab0 2000 6 [.int .i64 (.lit (36))] = true := by kernel_rfl
theorem run_37 : topTrue Try.prog tab0 2000 6 [.int .i64 (.lit (37))] = true := by kernel_rfl
theorem run_38 : topTrue Try.prog tab0 2000 6 [.int .i64 (.lit (38))] = true := by kernel_rfl
theorem run_39 : topTrue Try.prog tab0 2000 6 [.int .i64 (.lit (39))] = true := by kernel_rfl
theorem run_40 : topTrue Try.prog tab0 2000 6 [.int .i64 (.lit (40))] = true := by kernel_rfl
theorem run_41 : topTrue Try.prog tab0 2000 6 [.int .i64 (.lit (41))] = true := by kernel_rfl
theorem run_42 : topTrue Try.prog tab0 2000 6 [.int .i64 (.lit (42))] = true := by kernel_rfl
theorem run_43 : topTrue Try.prog tab0 2000 6 [.int .i64 (.lit (43))] = true := by kernel_rfl
theorem run_44 : topTrue Try.prog tab0 2000 6 [.int .i64 (.lit (44))] = true := by kernel_rfl
theorem run_45 : topTrue Try.prog tab0 2000 6 [.int .i64 (.lit (45))] = true := by kernel_rfl
end Go.Proofs.Ytfpllgkcflinbaa.assignNone
