/- Runs of the law CheckSizes on the machine of the file YtpgjmiieecdjhaaNnC: at these arguments it returns true. -/
import Derived.Test.YtpgjmiieecdjhaaNnC
import Derived.Test.YtpgjmiieecdjhaaProg
import Derived.KernelRfl
import Derived.Test.YtpgjmiieecdjhaaCheckSizesBase
namespace Go.Proofs.Ytpgjmiieecdjhaa.checkSizes
open Nm
theorem run_64_3 : topTrue Try.prog tab0 2000 8 [.int .i64 (.lit (64)), .int .i64 (.lit (3))] = true := by kernel_rfl
theorem run_64_4 : topTrue Try.prog tab0 2000 8 [.int .i64 (.lit (64)), .int .i64 (.lit (4))] = true := by kernel_rfl
theorem run_64_5 : topTrue Try.prog tab0 2000 8 [.int .i64 (.lit (64)), .int .i64 (.lit (5))] = true := by kernel_rfl
theorem run_64_6 : topTrue Try.prog tab0 2000 8 [.int .i64 (.lit (64)), .int .i64 (.lit (6))] = true := by kernel_rfl
theorem run_64_7 : topTrue Try.prog tab0 2000 8 [.int .i64 (.lit (64)), .int .i64 (.lit (7))] = true := by kernel_rfl
theorem run_64_8 : topTrue Try.prog tab0 2000 8 [.int .i64 (.lit (64)), .int .i64 (.lit (8))] = true := by kernel_rfl
theorem run_64_9 : topTrue Try.prog tab0 2000 8 [.int .i64 (.lit (64)), .int .i64 (.lit (9))] = true := by kernel_rfl
theorem run_64_10 : topTrue Try.prog tab0 2000 8 [.int .i64 (.lit (64)), .int .i64 (.lit (10))] = true := by kernel_rfl
theorem run_64_11 : topTrue Try.prog tab0 2000 8 [.int .i64 (.lit (64)), .int .i64 (.lit (11))] = true := by kernel_rfl
theorem run_64_12 : topTrue Try.prog tab0 2000 8 [.int .i64 (.lit (64)), .int .i64 (.lit (12))] = true := by kernel_rfl
theorem run_64_13 : topTrue Try.prog tab0 2000 8 [.int .i64 (.lit (64)), .int .i64 (.lit (13))] = true := by kernel_rfl
theorem run_64_14 : topTrue Try.prog tab0 2000 8 [.int .i64 (.lit (64)), .int .i64 (.lit (14))] = true := by kernel_rfl
theorem run_64_15 : topTrue Try.prog tab0 2000 8 [.int .i64 (.lit (64)), .int .i64 (.lit (15))] = true := by kernel_rfl
theorem run_64_16 : topTrue Try.prog tab0 2000 8 [.int .i64 (.lit (64)), .int .i64 (.lit (16))] = true := by kernel_rfl
theorem run_64_17 : topTrue Try.prog tab0 2000 8 [.int .i64 (.lit (64)), .int .i64 (.lit (17))] = true := by kernel_rfl
theorem run_64_18 : topTrue Try.prog tab0 2000 8 [.int .i64 (.lit (64)), .int .i64 (.lit (18))] = true := by kernel_rfl
theorem run_64_19 : topTrue Try.prog tab0 2000 8 [.int .i64 (.lit (64)), .int .i64 (.lit (19))] = true := by kernel_rfl
theorem run_64_20 : topTrue Try.prog tab0 2000 8 [.int .i64 (.lit (64)), .int .i64 (.lit (20))] = true := by kernel_rfl
end Go.Proofs.Ytpgjmiieecdjhaa.checkSizes
