/- Runs of the law CoreOwn on the machine of the file YtfpllgkcflinbaaNqC: at these arguments it returns true. -/
import Derived.Test.YtfpllgkcflinbaaNqC
import Derived.Test.YtfpllgkcflinbaaProg
import Derived.KernelRfl
import Derived.Test.YtfpllgkcflinbaaCoreOwnBase
import Derived.Test.YtfpllgkcflinbaaCoreOwnc
namespace Go.Proofs.Ytfpllgkcflinbaa.coreOwn
open Nm
theorem run_nle : topTrue code row31 2000 11 [.int .i64 (.le (-1)), .int .i64 (.ge (-9223372036854775808))] = true := by kernel_rfl
theorem run_nge : topTrue code row31 2000 11 [.int .i64 (.ge (512)), .int .i64 (.ge (-9223372036854775808))] = true := by kernel_rfl
theorem run_vle : topTrue code row31 2000 11 [.int .i64 (.sym 0 [.mk 1 1 0 511]), .int .i64 (.le (-1))] = true := by kernel_rfl
theorem run_vge : topTrue code row31 2000 11 [.int .i64 (.sym 0 [.mk 1 1 0 511]), .int .i64 (.ge (65536))] = true := by kernel_rfl
theorem run_0 : topTrue code row31 2000 11 [.int .i64 (.lit (0)), .int .i64 (.sym 0 [.mk 1 0 0 65535])] = true := by kernel_rfl
theorem run_1 : topTrue code row31 2000 11 [.int .i64 (.lit (1)), .int .i64 (.sym 0 [.mk 1 0 0 65535])] = true := by kernel_rfl
theorem run_2 : topTrue code row31 2000 11 [.int .i64 (.lit (2)), .int .i64 (.sym 0 [.mk 1 0 0 65535])] = true := by kernel_rfl
theorem run_3 : topTrue code row31 2000 11 [.int .i64 (.lit (3)), .int .i64 (.sym 0 [.mk 1 0 0 65535])] = true := by kernel_rfl
theorem run_4 : topTrue code row31 2000 11 [.int .i64 (.lit (4)), .int .i64 (.sym 0 [.mk 1 0 0 65535])] = true := by kernel_rfl
theorem run_5 : topTrue code row31 2000 11 [.int .i64 (.lit (5)), .int .i64 (.sym 0 [.mk 1 0 0 65535])] = true := by kernel_rfl
theorem run_6 : topTrue code row31 2000 11 [.int .i64 (.lit (6)), .int .i64 (.sym 0 [.mk 1 0 0 65535])] = true := by kernel_rfl
theorem run_7 : topTrue code row31 2000 11 [.int .i64 (.lit (7)), .int .i64 (.sym 0 [.mk 1 0 0 65535])] = true := by kernel_rfl
theorem run_8 : topTrue code row31 2000 11 [.int .i64 (.lit (8)), .int .i64 (.sym 0 [.mk 1 0 0 65535])] = true := by kernel_rfl
theorem run_9 : topTrue code row31 2000 11 [.int .i64 (.lit (9)), .int .i64 (.sym 0 [.mk 1 0 0 65535])] = true := by kernel_rfl
theorem run_10 : topTrue code row31 2000 11 [.int .i64 (.lit (10)), .int .i64 (.sym 0 [.mk 1 0 0 65535])] = true := by kernel_rfl
theorem run_11 : topTrue code row31 2000 11 [.int .i64 (.lit (11)), .int .i64 (.sym 0 [.mk 1 0 0 65535])] = true := by kernel_rfl
theorem run_12 : topTrue code row31 2000 11 [.int .i64 (.lit (12)), .int .i64 (.sym 0 [.mk 1 0 0 65535])] = true := by kernel_rfl
theorem run_13 : topTrue code row31 2000 11 [.int .i64 (.lit (13)), .int .i64 (.sym 0 [.mk 1 0 0 65535])] = true := by kernel_rfl
theorem run_14 : topTrue code row31 2000 11 [.int .i64 (.lit (14)), .int .i64 (.sym 0 [.mk 1 0 0 65535])] = true := by kernel_rfl
theorem run_15 : topTrue code row31 2000 11 [.int .i64 (.lit (15)), .int .i64 (.sym 0 [.mk 1 0 0 65535])] = true := by kernel_rfl
theorem run_16 : topTrue code row31 2000 11 [.int .i64 (.lit (16)), .int .i64 (.sym 0 [.mk 1 0 0 65535])] = true := by kernel_rfl
theorem run_17 : topTrue code row31 2000 11 [.int .i64 (.lit (17)), .int .i64 (.sym 0 [.mk 1 0 0 65535])] = true := by kernel_rfl
theorem run_18 : topTrue code row31 2000 11 [.int .i64 (.lit (18)), .int .i64 (.sym 0 [.mk 1 0 0 65535])] = true := by kernel_rfl
theorem run_19 : topTrue code row31 2000 11 [.int .i64 (.lit (19)), .int .i64 (.sym 0 [.mk 1 0 0 65535])] = true := by kernel_rfl
theorem run_20 : topTrue code row31 2000 11 [.int .i64 (.lit (20)), .int .i64 (.sym 0 [.mk 1 0 0 65535])] = true := by kernel_rfl
theorem run_21 : topTrue code row31 2000 11 [.int .i64 (.lit (21)), .int .i64 (.sym 0 [.mk 1 0 0 65535])] = true := by kernel_rfl
theorem run_22 : topTrue code row31 2000 11 [.int .i64 (.lit (22)), .int .i64 (.sym 0 [.mk 1 0 0 65535])] = true := by kernel_rfl
theorem run_23 : topTrue code row31 2000 11 [.int .i64 (.lit (23)), .int .i64 (.sym 0 [.mk 1 0 0 65535])] = true := by kernel_rfl
theorem run_24 : topTrue code row31 2000 11 [.int .i64 (.lit (24)), .int .i64 (.sym 0 [.mk 1 0 0 65535])] = true := by kernel_rfl
theorem run_25 : topTrue code row31 2000 11 [.int .i64 (.lit (25)), .int .i64 (.sym 0 [.mk 1 0 0 65535])] = true := by kernel_rfl
theorem run_26 : topTrue code row31 2000 11 [.int .i64 (.lit (26)), .int .i64 (.sym 0 [.mk 1 0 0 65535])] = true := by kernel_rfl
theorem run_27 : topTrue code row31 2000 11 [.int .i64 (.lit (27)), .int .i64 (.sym 0 [.mk 1 0 0 65535])] = true := by kernel_rfl
end Go.Proofs.Ytfpllgkcflinbaa.coreOwn
