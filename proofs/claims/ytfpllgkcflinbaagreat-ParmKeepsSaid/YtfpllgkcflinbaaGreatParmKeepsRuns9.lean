/- Runs of the law ParmKeeps on the machine of the file YtfpllgkcflinbaaGreatNpC: at these arguments it returns true. -/
import Derived.Test.YtfpllgkcflinbaaGreatNpC
import Derived.Test.YtfpllgkcflinbaaGreatProg
import Derived.KernelRfl
import Derived.Test.YtfpllgkcflinbaaGreatParmKeepsBase
namespace Go.Proofs.YtfpllgkcflinbaaGreat.parmKeeps
open Nm
theorem run_5_6 : topTrue Tryz.prog tab3 2000 4 [.int .i64 (.sym 0 [.mk 1 0 1 60000]), .int .i64 (.sym 0 [.mk 1 1 1 60000]), .int .i64 (.lit (5)), .int .i64 (.lit (6))] = true := by kernel_rfl
theorem run_5_7 : topTrue Tryz.prog tab3 2000 4 [.int .i64 (.sym 0 [.mk 1 0 1 60000]), .int .i64 (.sym 0 [.mk 1 1 1 60000]), .int .i64 (.lit (5)), .int .i64 (.lit (7))] = true := by kernel_rfl
theorem run_6_0 : topTrue Tryz.prog tab3 2000 4 [.int .i64 (.sym 0 [.mk 1 0 1 60000]), .int .i64 (.sym 0 [.mk 1 1 1 60000]), .int .i64 (.lit (6)), .int .i64 (.lit (0))] = true := by kernel_rfl
theorem run_6_1 : topTrue Tryz.prog tab3 2000 4 [.int .i64 (.sym 0 [.mk 1 0 1 60000]), .int .i64 (.sym 0 [.mk 1 1 1 60000]), .int .i64 (.lit (6)), .int .i64 (.lit (1))] = true := by kernel_rfl
theorem run_6_2 : topTrue Tryz.prog tab3 2000 4 [.int .i64 (.sym 0 [.mk 1 0 1 60000]), .int .i64 (.sym 0 [.mk 1 1 1 60000]), .int .i64 (.lit (6)), .int .i64 (.lit (2))] = true := by kernel_rfl
theorem run_6_3 : topTrue Tryz.prog tab3 2000 4 [.int .i64 (.sym 0 [.mk 1 0 1 60000]), .int .i64 (.sym 0 [.mk 1 1 1 60000]), .int .i64 (.lit (6)), .int .i64 (.lit (3))] = true := by kernel_rfl
end Go.Proofs.YtfpllgkcflinbaaGreat.parmKeeps
