/- Runs of the law CoreWaits on the machine of the file YtfpllgkcflinbaaNnC: at these arguments it returns true. -/
import Derived.Test.YtfpllgkcflinbaaNnC
import Derived.Test.YtfpllgkcflinbaaProg
import Derived.KernelRfl
import Derived.Test.YtfpllgkcflinbaaCoreWaitsBase
namespace Go.Proofs.Ytfpllgkcflinbaa.coreWaits
open Nm
theorem run_f_t_le : topTrue Try.prog tab13 2000 16 [.bool false, .bool true, .int .i64 (.le (-1))] = true := by kernel_rfl
theorem run_f_t_ge : topTrue Try.prog tab13 2000 16 [.bool false, .bool true, .int .i64 (.ge (8))] = true := by kernel_rfl
theorem run_f_t_0 : topTrue Try.prog tab13 2000 16 [.bool false, .bool true, .int .i64 (.lit (0))] = true := by kernel_rfl
theorem run_f_t_1 : topTrue Try.prog tab13 2000 16 [.bool false, .bool true, .int .i64 (.lit (1))] = true := by kernel_rfl
theorem run_f_t_2 : topTrue Try.prog tab13 2000 16 [.bool false, .bool true, .int .i64 (.lit (2))] = true := by kernel_rfl
theorem run_f_t_3 : topTrue Try.prog tab13 2000 16 [.bool false, .bool true, .int .i64 (.lit (3))] = true := by kernel_rfl
theorem run_f_t_4 : topTrue Try.prog tab13 2000 16 [.bool false, .bool true, .int .i64 (.lit (4))] = true := by kernel_rfl
theorem run_f_t_5 : topTrue Try.prog tab13 2000 16 [.bool false, .bool true, .int .i64 (.lit (5))] = true := by kernel_rfl
theorem run_f_t_6 : topTrue Try.prog tab13 2000 16 [.bool false, .bool true, .int .i64 (.lit (6))] = true := by kernel_rfl
theorem run_f_t_7 : topTrue Try.prog tab13 2000 16 [.bool false, .bool true, .int .i64 (.lit (7))] = true := by kernel_rfl
theorem run_f_f_le : topTrue Try.prog tab13 2000 16 [.bool false, .bool false, .int .i64 (.le (-1))] = true := by kernel_rfl
theorem run_f_f_ge : topTrue Try.prog tab13 2000 16 [.bool false, .bool false, .int .i64 (.ge (8))] = true := by kernel_rfl
theorem run_f_f_0 : topTrue Try.prog tab13 2000 16 [.bool false, .bool false, .int .i64 (.lit (0))] = true := by kernel_rfl
theorem run_f_f_1 : topTrue Try.prog tab13 2000 16 [.bool false, .bool false, .int .i64 (.lit (1))] = true := by kernel_rfl
theorem run_f_f_2 : topTrue Try.prog tab13 2000 16 [.bool false, .bool false, .int .i64 (.lit (2))] = true := by kernel_rfl
theorem run_f_f_3 : topTrue Try.prog tab13 2000 16 [.bool false, .bool false, .int .i64 (.lit (3))] = true := by kernel_rfl
theorem run_f_f_4 : topTrue Try.prog tab13 2000 16 [.bool false, .bool false, .int .i64 (.lit (4))] = true := by kernel_rfl
theorem run_f_f_5 : topTrue Try.prog tab13 2000 16 [.bool false, .bool false, .int .i64 (.lit (5))] = true := by kernel_rfl
theorem run_f_f_6 : topTrue Try.prog tab13 2000 16 [.bool false, .bool false, .int .i64 (.lit (6))] = true := by kernel_rfl
theorem run_f_f_7 : topTrue Try.prog tab13 2000 16 [.bool false, .bool false, .int .i64 (.lit (7))] = true := by kernel_rfl
end Go.Proofs.Ytfpllgkcflinbaa.coreWaits
