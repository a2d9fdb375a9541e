/- Runs of the law ParmKeeps on the machine of the file YtfpllgkcflinbaaGreatNpC: at these arguments it returns true. -/
import Derived.Test.YtfpllgkcflinbaaGreatNpC
import Derived.Test.YtfpllgkcflinbaaGreatProg
import Derived.KernelRfl
import Derived.Test.YtfpllgkcflinbaaGreatParmKeepsBase
namespace Go.Proofs.YtfpllgkcflinbaaGreat.parmKeeps
open Nm
theorem run_2_0 : topTrue Tryz.prog tab3 2000 4 [.int .i64 (.sym 0 [.mk 1 0 1 60000]), .int .i64 (.sym 0 [.mk 1 1 1 60000]), .int .i64 (.lit (2)), .int .i64 (.lit (0))] = true := by kernel_rfl
theorem run_2_1 : topTrue Tryz.prog tab3 2000 4 [.int .i64 (.sym 0 [.mk 1 0 1 60000]), .int .i64 (.sym 0 [.mk 1 1 1 60000]), .int .i64 (.lit (2)), .int .i64 (.lit (1))] = true := by kernel_rfl
theorem run_2_2 : topTrue Tryz.prog tab3 2000 4 [.int .i64 (.sym 0 [.mk 1 0 1 60000]), .int .i64 (.sym 0 [.mk 1 1 1 60000]), .int .i64 (.lit (2)), .int .i64 (.lit (2))] = true := by kernel_rfl
theorem run_2_3 : topTrue Tryz.prog tab3 2000 4 [.int .i64 (.sym 0 [.mk 1 0 1 60000]), .int .i64 (.sym 0 [.mk 1 1 1 60000]), .int .i64 (.lit (2)), .int .i64 (.lit (3))] = true := by kernel_rfl
theorem run_2_4 : topTrue Tryz.prog tab3 2000 4 [.int .i64 (.sym 0 [.mk 1 0 1 60000]), .int .i64 (.sym 0 [.mk 1 1 1 60000]), .int .i64 (.lit (2)), .int .i64 (.lit (4))] = true := by kernel_rfl
theorem run_2_5 : topTrue Tryz.prog tab3 2000 4 [.int .i64 (.sym 0 [.mk 1 0 1 60000]), .int .i64 (.sym 0 [.mk 1 1 1 60000]), .int .i64 (.lit (2)), .int .i64 (.lit (5))] = true := by kernel_rfl
end Go.Proofs.YtfpllgkcflinbaaGreat.parmKeeps
