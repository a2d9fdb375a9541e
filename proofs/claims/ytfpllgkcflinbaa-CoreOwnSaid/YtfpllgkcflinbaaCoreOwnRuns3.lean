/- Runs of the law CoreOwn on the machine of the file YtfpllgkcflinbaaNqC: at these arguments it returns true. -/
import Derived.Test.YtfpllgkcflinbaaNqC
import Derived.Test.YtfpllgkcflinbaaProg
import Derived.KernelRfl
import Derived.Test.YtfpllgkcflinbaaCoreOwnBase
import Derived.Test.YtfpllgkcflinbaaCoreOwnc
namespace Go.Proofs.Ytfpllgkcflinbaa.coreOwn
open Nm
theorem run_92 : topTrue code row31 2000 11 [.int .i64 (.lit (92)), .int .i64 (.sym 0 [.mk 1 0 0 65535])] = true := by kernel_rfl
theorem run_93 : topTrue code row31 2000 11 [.int .i64 (.lit (93)), .int .i64 (.sym 0 [.mk 1 0 0 65535])] = true := by kernel_rfl
theorem run_94 : topTrue code row31 2000 11 [.int .i64 (.lit (94)), .int .i64 (.sym 0 [.mk 1 0 0 65535])] = true := by kernel_rfl
theorem run_95 : topTrue code row31 2000 11 [.int .i64 (.lit (95)), .int .i64 (.sym 0 [.mk 1 0 0 65535])] = true := by kernel_rfl
theorem run_96 : topTrue code row31 2000 11 [.int .i64 (.lit (96)), .int .i64 (.sym 0 [.mk 1 0 0 65535])] = true := by kernel_rfl
theorem run_97 : topTrue code row31 2000 11 [.int .i64 (.lit (97)), .int .i64 (.sym 0 [.mk 1 0 0 65535])] = true := by kernel_rfl
theorem run_98 : topTrue code row31 2000 11 [.int .i64 (.lit (98)), .int .i64 (.sym 0 [.mk 1 0 0 65535])] = true := by kernel_rfl
theorem run_99 : topTrue code row31 2000 11 [.int .i64 (.lit (99)), .int .i64 (.sym 0 [.mk 1 0 0 65535])] = true := by kernel_rfl
theorem run_100 : topTrue code row31 2000 11 [.int .i64 (.lit (100)), .int .i64 (.sym 0 [.mk 1 0 0 65535])] = true := by kernel_rfl
theorem run_101 : topTrue code row31 2000 11 [.int .i64 (.lit (101)), .int .i64 (.sym 0 [.mk 1 0 0 65535])] = true := by kernel_rfl
theorem run_102 : topTrue code row31 2000 11 [.int .i64 (.lit (102)), .int .i64 (.sym 0 [.mk 1 0 0 65535])] = true := by kernel_rfl
theorem run_103 : topTrue code row31 2000 11 [.int .i64 (.lit (103)), .int .i64 (.sym 0 [.mk 1 0 0 65535])] = true := by kernel_rfl
theorem run_104 : topTrue code row31 2000 11 [.int .i64 (.lit (104)), .int .i64 (.sym 0 [.mk 1 0 0 65535])] = true := by kernel_rfl
theorem run_105 : topTrue code row31 2000 11 [.int .i64 (.lit (105)), .int .i64 (.sym 0 [.mk 1 0 0 65535])] = true := by kernel_rfl
theorem run_106 : topTrue code row31 2000 11 [.int .i64 (.lit (106)), .int .i64 (.sym 0 [.mk 1 0 0 65535])] = true := by kernel_rfl
theorem run_107 : topTrue code row31 2000 11 [.int .i64 (.lit (107)), .int .i64 (.sym 0 [.mk 1 0 0 65535])] = true := by kernel_rfl
theorem run_108 : topTrue code row31 2000 11 [.int .i64 (.lit (108)), .int .i64 (.sym 0 [.mk 1 0 0 65535])] = true := by kernel_rfl
theorem run_109 : topTrue code row31 2000 11 [.int .i64 (.lit (109)), .int .i64 (.sym 0 [.mk 1 0 0 65535])] = true := by kernel_rfl
theorem run_110 : topTrue code row31 2000 11 [.int .i64 (.lit (110)), .int .i64 (.sym 0 [.mk 1 0 0 65535])] = true := by kernel_rfl
theorem run_111 : topTrue code row31 2000 11 [.int .i64 (.lit (111)), .int .i64 (.sym 0 [.mk 1 0 0 65535])] = true := by kernel_rfl
theorem run_112 : topTrue code row31 2000 11 [.int .i64 (.lit (112)), .int .i64 (.sym 0 [.mk 1 0 0 65535])] = true := by kernel_rfl
theorem run_113 : topTrue code row31 2000 11 [.int .i64 (.lit (113)), .int .i64 (.sym 0 [.mk 1 0 0 65535])] = true := by kernel_rfl
theorem run_114 : topTrue code row31 2000 11 [.int .i64 (.lit (114)), .int .i64 (.sym 0 [.mk 1 0 0 65535])] = true := by kernel_rfl
theorem run_115 : topTrue code row31 2000 11 [.int .i64 (.lit (115)), .int .i64 (.sym 0 [.mk 1 0 0 65535])] = true := by kernel_rfl
theorem run_116 : topTrue code row31 2000 11 [.int .i64 (.lit (116)), .int .i64 (.sym 0 [.mk 1 0 0 65535])] = true := by kernel_rfl
theorem run_117 : topTrue code row31 2000 11 [.int .i64 (.lit (117)), .int .i64 (.sym 0 [.mk 1 0 0 65535])] = true := by kernel_rfl
theorem run_118 : topTrue code row31 2000 11 [.int .i64 (.lit (118)), .int .i64 (.sym 0 [.mk 1 0 0 65535])] = true := by kernel_rfl
theorem run_119 : topTrue code row31 2000 11 [.int .i64 (.lit (119)), .int .i64 (.sym 0 [.mk 1 0 0 65535])] = true := by kernel_rfl
theorem run_120 : topTrue code row31 2000 11 [.int .i64 (.lit (120)), .int .i64 (.sym 0 [.mk 1 0 0 65535])] = true := by kernel_rfl
theorem run_121 : topTrue code row31 2000 11 [.int .i64 (.lit (121)), .int .i64 (.sym 0 [.mk 1 0 0 65535])] = true := by kernel_rfl
theorem run_122 : topTrue code row31 2000 11 [.int .i64 (.lit (122)), .int .i64 (.sym 0 [.mk 1 0 0 65535])] = true := by kernel_rfl
theorem run_123 : topTrue code row31 2000 11 [.int .i64 (.lit (123)), .int .i64 (.sym 0 [.mk 1 0 0 65535])] = true := by kernel_rfl
end Go.Proofs.Ytfpllgkcflinbaa.coreOwn
