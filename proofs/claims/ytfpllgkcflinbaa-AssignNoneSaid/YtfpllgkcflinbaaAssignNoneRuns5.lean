/- Runs of the law AssignNone on the machine of the file YtfpllgkcflinbaaNnC: at these arguments it returns true. -/
import Derived.Test.YtfpllgkcflinbaaNnC
import Derived.Test.YtfpllgkcflinbaaProg
import Derived.KernelRfl
import Derived.Test.YtfpllgkcflinbaaAssignNoneBase
namespace Go.Proofs.Ytfpllgkcflinbaa.assignNone
open Nm
theorem run_58 : topTrue Try.prog tab0 2000 6 [.int .i64 (.lit (58))] = true := by kernel_rfl
theorem run_59 : topTrue Try.prog tab0 2000 6 [.int .i64 (.lit (59))] = true := by kernel_rfl
theorem run_60 : topTrue Try.prog tab0 2000 6 [.int .i64 (.lit (60))] = true := by kernel_rfl
theorem run_61 : topTrue Try.prog tab0 2000 6 [.int .i64 (.lit (61))] = true := by kernel_rfl
theorem run_62 : topTrue Try.prog tab0 2000 6 [.int .i64 (.lit (62))] = true := by kernel_rfl
theorem run_63 : topTrue Try.prog tab0 2000 6 [.int .i64 (.lit (63))] = true := by kernel_rfl
theorem run_64 : topTrue Try.prog tab0 2000 6 [.int .i64 (.lit (64))] = true := by kernel_rfl
theorem run_65 : topTrue Try.prog tab0 2000 6 [.int .i64 (.lit (65))] = true := by kernel_rfl
theorem run_66 : topTrue Try.prog tab0 2000 6 [.int .i64 (.lit (66))] = true := by kernel_rfl
theorem run_67 : topTrue Try.prog tab0 2000 6 [.int .i64 (.lit (67))] = true := by kernel_rfl
theorem run_68 : topTrue Try.prog tab0 2000 6 [.int .i64 (.lit (68))] = true := by kernel_rfl
theorem run_69 : topTrue Try.prog tab0 2000 6 [.int .i64 (.lit (69))] = true := by kernel_rfl
end Go.Proofs.Ytfpllgkcflinbaa.assignNone
