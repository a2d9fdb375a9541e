/- Runs of the law CoreOwn on the machine of the file YtfpllgkcflinbaaNqC: at these arguments it returns true. -/
import Derived.Test.YtfpllgkcflinbaaNqC
import Derived.Test.YtfpllgkcflinbaaProg
import Derived.KernelRfl
import Derived.Test.YtfpllgkcflinbaaCoreOwnBase
import Derived.Test.YtfpllgkcflinbaaCoreOwnc
namespace Go.Proofs.Ytfpllgkcflinbaa.coreOwn
open Nm
theorem run_28 : topTrue code row31 2000 11 [.int .i64 (.lit (28)), .int .i64 (.sym 0 [.mk 1 0 0 65535])] = true := by kernel_rfl
theorem run_29 : topTrue code row31 2000 11 [.int .i64 (.lit (29)), .int .i64 (.sym 0 [.mk 1 0 0 65535])] = true := by kernel_rfl
theorem run_30 : topTrue code row31 2000 11 [.int .i64 (.lit (30)), .int .i64 (.sym 0 [.mk 1 0 0 65535])] = true := by kernel_rfl
theorem run_31 : topTrue code row31 2000 11 [.int .i64 (.lit (31)), .int .i64 (.sym 0 [.mk 1 0 0 65535])] = true := by kernel_rfl
theorem run_32 : topTrue code row31 2000 11 [.int .i64 (.lit (32)), .int .i64 (.sym 0 [.mk 1 0 0 65535])] = true := by kernel_rfl
theorem run_33 : topTrue code row31 2000 11 [.int .i64 (.lit (33)), .int .i64 (.sym 0 [.mk 1 0 0 65535])] = true := by kernel_rfl
theorem run_34 : topTrue code row31 2000 11 [.int .i64 (.lit (34)), .int .i64 (.sym 0 [.mk 1 0 0 65535])] = true := by kernel_rfl
theorem run_35 : topTrue code row31 2000 11 [.int .i64 (.lit (35)), .int .i64 (.sym 0 [.mk 1 0 0 65535])] = true := by kernel_rfl
theorem run_36 : topTrue code row31 2000 11 [.int .i64 (.lit (36)), .int .i64 (.sym 0 [.mk 1 0 0 65535])] = true := by kernel_rfl
theorem run_37 : topTrue code row31 2000 11 [.int .i64 (.lit (37)), .int .i64 (.sym 0 [.mk 1 0 0 65535])] = true := by kernel_rfl
theorem run_38 : topTrue code row31 2000 11 [.int .i64 (.lit (38)), .int .i64 (.sym 0 [.mk 1 0 0 65535])] = true := by kernel_rfl
theorem run_39 : topTrue code row31 2000 11 [.int .i64 (.lit (39)), .int .i64 (.sym 0 [.mk 1 0 0 65535])] = true := by kernel_rfl
theorem run_40 : topTrue code row31 2000 11 [.int .i64 (.lit (40)), .int .i64 (.sym 0 [.mk 1 0 0 65535])] = true := by kernel_rfl
theorem run_41 : topTrue code row31 2000 11 [.int .i64 (.lit (41)), .int .i64 (.sym 0 [.mk 1 0 0 65535])] = true := by kernel_rfl
theorem run_42 : topTrue code row31 2000 11 [.int .i64 (.lit (42)), .int .i64 (.sym 0 [.mk 1 0 0 65535])] = true := by kernel_rfl
theorem run_43 : topTrue code row31 2000 11 [.int .i64 (.lit (43)), .int .i64 (.sym 0 [.mk 1 0 0 65535])] = true := by kernel_rfl
theorem run_44 : topTrue code row31 2000 11 [.int .i64 (.lit (44)), .int .i64 (.sym 0 [.mk 1 0 0 65535])] = true := by kernel_rfl
theorem run_45 : topTrue code row31 2000 11 [.int .i64 (.lit (45)), .int .i64 (.sym 0 [.mk 1 0 0 65535])] = true := by kernel_rfl
theorem run_46 : topTrue code row31 2000 11 [.int .i64 (.lit (46)), .int .i64 (.sym 0 [.mk 1 0 0 65535])] = true := by kernel_rfl
theorem run_47 : topTrue code row31 2000 11 [.int .i64 (.lit (47)), .int .i64 (.sym 0 [.mk 1 0 0 65535])] = true := by kernel_rfl
theorem run_48 : topTrue code row31 2000 11 [.int .i64 (.lit (48)), .int .i64 (.sym 0 [.mk 1 0 0 65535])] = true := by kernel_rfl
theorem run_49 : topTrue code row31 2000 11 [.int .i64 (.lit (49)), .int .i64 (.sym 0 [.mk 1 0 0 65535])] = true := by kernel_rfl
theorem run_50 : topTrue code row31 2000 11 [.int .i64 (.lit (50)), .int .i64 (.sym 0 [.mk 1 0 0 65535])] = true := by kernel_rfl
theorem run_51 : topTrue code row31 2000 11 [.int .i64 (.lit (51)), .int .i64 (.sym 0 [.mk 1 0 0 65535])] = true := by kernel_rfl
theorem run_52 : topTrue code row31 2000 11 [.int .i64 (.lit (52)), .int .i64 (.sym 0 [.mk 1 0 0 65535])] = true := by kernel_rfl
theorem run_53 : topTrue code row31 2000 11 [.int .i64 (.lit (53)), .int .i64 (.sym 0 [.mk 1 0 0 65535])] = true := by kernel_rfl
theorem run_54 : topTrue code row31 2000 11 [.int .i64 (.lit (54)), .int .i64 (.sym 0 [.mk 1 0 0 65535])] = true := by kernel_rfl
theorem run_55 : topTrue code row31 2000 11 [.int .i64 (.lit (55)), .int .i64 (.sym 0 [.mk 1 0 0 65535])] = true := by kernel_rfl
theorem run_56 : topTrue code row31 2000 11 [.int .i64 (.lit (56)), .int .i64 (.sym 0 [.mk 1 0 0 65535])] = true := by kernel_rfl
theorem run_57 : topTrue code row31 2000 11 [.int .i64 (.lit (57)), .int .i64 (.sym 0 [.mk 1 0 0 65535])] = true := by kernel_rfl
theorem run_58 : topTrue code row31 2000 11 [.int .i64 (.lit (58)), .int .i64 (.sym 0 [.mk 1 0 0 65535])] = true := by kernel_rfl
theorem run_59 : topTrue code row31 2000 11 [.int .i64 (.lit (59)), .int .i64 (.sym 0 [.mk 1 0 0 65535])] = true := by kernel_rfl
end Go.Proofs.Ytfpllgkcflinbaa.coreOwn
