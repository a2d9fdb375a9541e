/- Runs of the law CoreOwn on the machine of the file YtfpllgkcflinbaaNqC: at these arguments it returns true. -/
import Derived.Test.YtfpllgkcflinbaaNqC
import Derived.Test.YtfpllgkcflinbaaProg
import Derived.KernelRfl
import Derived.Test.YtfpllgkcflinbaaCoreOwnBase
import Derived.Test.YtfpllgkcflinbaaCoreOwnc
namespace Go.Proofs.Ytfpllgkcflinbaa.coreOwn
open Nm
theorem run_124 : topTrue code row31 2000 11 [.int .i64 (.lit (124)), .int .i64 (.sym 0 [.mk 1 0 0 65535])] = true := by kernel_rfl
theorem run_125 : topTrue code row31 2000 11 [.int .i64 (.lit (125)), .int .i64 (.sym 0 [.mk 1 0 0 65535])] = true := by kernel_rfl
theorem run_126 : topTrue code row31 2000 11 [.int .i64 (.lit (126)), .int .i64 (.sym 0 [.mk 1 0 0 65535])] = true := by kernel_rfl
theorem run_127 : topTrue code row31 2000 11 [.int .i64 (.lit (127)), .int .i64 (.sym 0 [.mk 1 0 0 65535])] = true := by kernel_rfl
theorem run_128 : topTrue code row31 2000 11 [.int .i64 (.lit (128)), .int .i64 (.sym 0 [.mk 1 0 0 65535])] = true := by kernel_rfl
theorem run_129 : topTrue code row31 2000 11 [.int .i64 (.lit (129)), .int .i64 (.sym 0 [.mk 1 0 0 65535])] = true := by kernel_rfl
theorem run_130 : topTrue code row31 2000 11 [.int .i64 (.lit (130)), .int .i64 (.sym 0 [.mk 1 0 0 65535])] = true := by kernel_rfl
theorem run_131 : topTrue code row31 2000 11 [.int .i64 (.lit (131)), .int .i64 (.sym 0 [.mk 1 0 0 65535])] = true := by kernel_rfl
theorem run_132 : topTrue code row31 2000 11 [.int .i64 (.lit (132)), .int .i64 (.sym 0 [.mk 1 0 0 65535])] = true := by kernel_rfl
theorem run_133 : topTrue code row31 2000 11 [.int .i64 (.lit (133)), .int .i64 (.sym 0 [.mk 1 0 0 65535])] = true := by kernel_rfl
theorem run_134 : topTrue code row31 2000 11 [.int .i64 (.lit (134)), .int .i64 (.sym 0 [.mk 1 0 0 65535])] = true := by kernel_rfl
theorem run_135 : topTrue code row31 2000 11 [.int .i64 (.lit (135)), .int .i64 (.sym 0 [.mk 1 0 0 65535])] = true := by kernel_rfl
theorem run_136 : topTrue code row31 2000 11 [.int .i64 (.lit (136)), .int .i64 (.sym 0 [.mk 1 0 0 65535])] = true := by kernel_rfl
theorem run_137 : topTrue code row31 2000 11 [.int .i64 (.lit (137)), .int .i64 (.sym 0 [.mk 1 0 0 65535])] = true := by kernel_rfl
theorem run_138 : topTrue code row31 2000 11 [.int .i64 (.lit (138)), .int .i64 (.sym 0 [.mk 1 0 0 65535])] = true := by kernel_rfl
theorem run_139 : topTrue code row31 2000 11 [.int .i64 (.lit (139)), .int .i64 (.sym 0 [.mk 1 0 0 65535])] = true := by kernel_rfl
theorem run_140 : topTrue code row31 2000 11 [.int .i64 (.lit (140)), .int .i64 (.sym 0 [.mk 1 0 0 65535])] = true := by kernel_rfl
theorem run_141 : topTrue code row31 2000 11 [.int .i64 (.lit (141)), .int .i64 (.sym 0 [.mk 1 0 0 65535])] = true := by kernel_rfl
theorem run_142 : topTrue code row31 2000 11 [.int .i64 (.lit (142)), .int .i64 (.sym 0 [.mk 1 0 0 65535])] = true := by kernel_rfl
theorem run_143 : topTrue code row31 2000 11 [.int .i64 (.lit (143)), .int .i64 (.sym 0 [.mk 1 0 0 65535])] = true := by kernel_rfl
theorem run_144 : topTrue code row31 2000 11 [.int .i64 (.lit (144)), .int .i64 (.sym 0 [.mk 1 0 0 65535])] = true := by kernel_rfl
theorem run_145 : topTrue code row31 2000 11 [.int .i64 (.lit (145)), .int .i64 (.sym 0 [.mk 1 0 0 65535])] = true := by kernel_rfl
theorem run_146 : topTrue code row31 2000 11 [.int .i64 (.lit (146)), .int .i64 (.sym 0 [.mk 1 0 0 65535])] = true := by kernel_rfl
theorem run_147 : topTrue code row31 2000 11 [.int .i64 (.lit (147)), .int .i64 (.sym 0 [.mk 1 0 0 65535])] = true := by kernel_rfl
theorem run_148 : topTrue code row31 2000 11 [.int .i64 (.lit (148)), .int .i64 (.sym 0 [.mk 1 0 0 65535])] = true := by kernel_rfl
theorem run_149 : topTrue code row31 2000 11 [.int .i64 (.lit (149)), .int .i64 (.sym 0 [.mk 1 0 0 65535])] = true := by kernel_rfl
theorem run_150 : topTrue code row31 2000 11 [.int .i64 (.lit (150)), .int .i64 (.sym 0 [.mk 1 0 0 65535])] = true := by kernel_rfl
theorem run_151 : topTrue code row31 2000 11 [.int .i64 (.lit (151)), .int .i64 (.sym 0 [.mk 1 0 0 65535])] = true := by kernel_rfl
theorem run_152 : topTrue code row31 2000 11 [.int .i64 (.lit (152)), .int .i64 (.sym 0 [.mk 1 0 0 65535])] = true := by kernel_rfl
theorem run_153 : topTrue code row31 2000 11 [.int .i64 (.lit (153)), .int .i64 (.sym 0 [.mk 1 0 0 65535])] = true := by kernel_rfl
theorem run_154 : topTrue code row31 2000 11 [.int .i64 (.lit (154)), .int .i64 (.sym 0 [.mk 1 0 0 65535])] = true := by kernel_rfl
theorem run_155 : topTrue code row31 2000 11 [.int .i64 (.lit (155)), .int .i64 (.sym 0 [.mk 1 0 0 65535])] = true := by kernel_rfl
end Go.Proofs.Ytfpllgkcflinbaa.coreOwn
