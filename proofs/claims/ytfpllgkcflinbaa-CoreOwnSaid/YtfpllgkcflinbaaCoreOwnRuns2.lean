/- Runs of the law CoreOwn on the machine of the file YtfpllgkcflinbaaNqC: at these arguments it returns true. -/
import Derived.Test.YtfpllgkcflinbaaNqC
import Derived.Test.YtfpllgkcflinbaaProg
import Derived.KernelRfl
import Derived.Test.YtfpllgkcflinbaaCoreOwnBase
import Derived.Test.YtfpllgkcflinbaaCoreOwnc
namespace Go.Proofs.Ytfpllgkcflinbaa.coreOwn
open Nm
theorem run_60 : topTrue code row31 2000 11 [.int .i64 (.lit (60)), .int .i64 (.sym 0 [.mk 1 0 0 65535])] = true := by kernel_rfl
theorem run_61 : topTrue code row31 2000 11 [.int .i64 (.lit (61)), .int .i64 (.sym 0 [.mk 1 0 0 65535])] = true := by kernel_rfl
theorem run_62 : topTrue code row31 2000 11 [.int .i64 (.lit (62)), .int .i64 (.sym 0 [.mk 1 0 0 65535])] = true := by kernel_rfl
theorem run_63 : topTrue code row31 2000 11 [.int .i64 (.lit (63)), .int .i64 (.sym 0 [.mk 1 0 0 65535])] = true := by kernel_rfl
theorem run_64 : topTrue code row31 2000 11 [.int .i64 (.lit (64)), .int .i64 (.sym 0 [.mk 1 0 0 65535])] = true := by kernel_rfl
theorem run_65 : topTrue code row31 2000 11 [.int .i64 (.lit (65)), .int .i64 (.sym 0 [.mk 1 0 0 65535])] = true := by kernel_rfl
theorem run_66 : topTrue code row31 2000 11 [.int .i64 (.lit (66)), .int .i64 (.sym 0 [.mk 1 0 0 65535])] = true := by kernel_rfl
theorem run_67 : topTrue code row31 2000 11 [.int .i64 (.lit (67)), .int .i64 (.sym 0 [.mk 1 0 0 65535])] = true := by kernel_rfl
theorem run_68 : topTrue code row31 2000 11 [.int .i64 (.lit (68)), .int .i64 (.sym 0 [.mk 1 0 0 65535])] = true := by kernel_rfl
theorem run_69 : topTrue code row31 2000 11 [.int .i64 (.lit (69)), .int .i64 (.sym 0 [.mk 1 0 0 65535])] = true := by kernel_rfl
theorem run_70 : topTrue code row31 2000 11 [.int .i64 (.lit (70)), .int .i64 (.sym 0 [.mk 1 0 0 65535])] = true := by kernel_rfl
theorem run_71 : topTrue code row31 2000 11 [.int .i64 (.lit (71)), .int .i64 (.sym 0 [.mk 1 0 0 65535])] = true := by kernel_rfl
theorem run_72 : topTrue code row31 2000 11 [.int .i64 (.lit (72)), .int .i64 (.sym 0 [.mk 1 0 0 65535])] = true := by kernel_rfl
theorem run_73 : topTrue code row31 2000 11 [.int .i64 (.lit (73)), .int .i64 (.sym 0 [.mk 1 0 0 65535])] = true := by kernel_rfl
theorem run_74 : topTrue code row31 2000 11 [.int .i64 (.lit (74)), .int .i64 (.sym 0 [.mk 1 0 0 65535])] = true := by kernel_rfl
theorem run_75 : topTrue code row31 2000 11 [.int .i64 (.lit (75)), .int .i64 (.sym 0 [.mk 1 0 0 65535])] = true := by kernel_rfl
theorem run_76 : topTrue code row31 2000 11 [.int .i64 (.lit (76)), .int .i64 (.sym 0 [.mk 1 0 0 65535])] = true := by kernel_rfl
theorem run_77 : topTrue code row31 2000 11 [.int .i64 (.lit (77)), .int .i64 (.sym 0 [.mk 1 0 0 65535])] = true := by kernel_rfl
theorem run_78 : topTrue code row31 2000 11 [.int .i64 (.lit (78)), .int .i64 (.sym 0 [.mk 1 0 0 65535])] = true := by kernel_rfl
theorem run_79 : topTrue code row31 2000 11 [.int .i64 (.lit (79)), .int .i64 (.sym 0 [.mk 1 0 0 65535])] = true := by kernel_rfl
theorem run_80 : topTrue code row31 2000 11 [.int .i64 (.lit (80)), .int .i64 (.sym 0 [.mk 1 0 0 65535])] = true := by kernel_rfl
theorem run_81 : topTrue code row31 2000 11 [.int .i64 (.lit (81)), .int .i64 (.sym 0 [.mk 1 0 0 65535])] = true := by kernel_rfl
theorem run_82 : topTrue code row31 2000 11 [.int .i64 (.lit (82)), .int .i64 (.sym 0 [.mk 1 0 0 65535])] = true := by kernel_rfl
theorem run_83 : topTrue code row31 2000 11 [.int .i64 (.lit (83)), .int .i64 (.sym 0 [.mk 1 0 0 65535])] = true := by kernel_rfl
theorem run_84 : topTrue code row31 2000 11 [.int .i64 (.lit (84)), .int .i64 (.sym 0 [.mk 1 0 0 65535])] = true := by kernel_rfl
theorem run_85 : topTrue code row31 2000 11 [.int .i64 (.lit (85)), .int .i64 (.sym 0 [.mk 1 0 0 65535])] = true := by kernel_rfl
theorem run_86 : topTrue code row31 2000 11 [.int .i64 (.lit (86)), .int .i64 (.sym 0 [.mk 1 0 0 65535])] = true := by kernel_rfl
theorem run_87 : topTrue code row31 2000 11 [.int .i64 (.lit (87)), .int .i64 (.sym 0 [.mk 1 0 0 65535])] = true := by kernel_rfl
theorem run_88 : topTrue code row31 2000 11 [.int .i64 (.lit (88)), .int .i64 (.sym 0 [.mk 1 0 0 65535])] = true := by kernel_rfl
theorem run_89 : topTrue code row31 2000 11 [.int .i64 (.lit (89)), .int .i64 (.sym 0 [.mk 1 0 0 65535])] = true := by kernel_rfl
theorem run_90 : topTrue code row31 2000 11 [.int .i64 (.lit (90)), .int .i64 (.sym 0 [.mk 1 0 0 65535])] = true := by kernel_rfl
theorem run_91 : topTrue code row31 2000 11 [.int .i64 (.lit (91)), .int .i64 (.sym 0 [.mk 1 0 0 65535])] = true := by kernel_rfl
end Go.Proofs.Ytfpllgkcflinbaa.coreOwn
