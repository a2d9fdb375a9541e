/- Runs of the law CoreOwn on the machine of the file YtfpllgkcflinbaaNqC: at these arguments it returns true. -/
import Derived.Test.YtfpllgkcflinbaaNqC
import Derived.Test.YtfpllgkcflinbaaProg
import Derived.KernelRfl
import Derived.Test.YtfpllgkcflinbaaCoreOwnBase
import Derived.Test.YtfpllgkcflinbaaCoreOwnc
namespace Go.Proofs.Ytfpllgkcflinbaa.coreOwn
open Nm
theorem run_156 : topTrue code row31 2000 11 [.int .i64 (.lit (156)), .int .i64 (.sym 0 [.mk 1 0 0 65535])] = true := by kernel_rfl
theorem run_157 : topTrue code row31 2000 11 [.int .i64 (.lit (157)), .int .i64 (.sym 0 [.mk 1 0 0 65535])] = true := by kernel_rfl
theorem run_158 : topTrue code row31 2000 11 [.int .i64 (.lit (158)), .int .i64 (.sym 0 [.mk 1 0 0 65535])] = true := by kernel_rfl
theorem run_159 : topTrue code row31 2000 11 [.int .i64 (.lit (159)), .int .i64 (.sym 0 [.mk 1 0 0 65535])] = true := by kernel_rfl
theorem run_160 : topTrue code row31 2000 11 [.int .i64 (.lit (160)), .int .i64 (.sym 0 [.mk 1 0 0 65535])] = true := by kernel_rfl
theorem run_161 : topTrue code row31 2000 11 [.int .i64 (.lit (161)), .int .i64 (.sym 0 [.mk 1 0 0 65535])] = true := by kernel_rfl
theorem run_162 : topTrue code row31 2000 11 [.int .i64 (.lit (162)), .int .i64 (.sym 0 [.mk 1 0 0 65535])] = true := by kernel_rfl
theorem run_163 : topTrue code row31 2000 11 [.int .i64 (.lit (163)), .int .i64 (.sym 0 [.mk 1 0 0 65535])] = true := by kernel_rfl
theorem run_164 : topTrue code row31 2000 11 [.int .i64 (.lit (164)), .int .i64 (.sym 0 [.mk 1 0 0 65535])] = true := by kernel_rfl
theorem run_165 : topTrue code row31 2000 11 [.int .i64 (.lit (165)), .int .i64 (.sym 0 [.mk 1 0 0 65535])] = true := by kernel_rfl
theorem run_166 : topTrue code row31 2000 11 [.int .i64 (.lit (166)), .int .i64 (.sym 0 [.mk 1 0 0 65535])] = true := by kernel_rfl
theorem run_167 : topTrue code row31 2000 11 [.int .i64 (.lit (167)), .int .i64 (.sym 0 [.mk 1 0 0 65535])] = true := by kernel_rfl
theorem run_168 : topTrue code row31 2000 11 [.int .i64 (.lit (168)), .int .i64 (.sym 0 [.mk 1 0 0 65535])] = true := by kernel_rfl
theorem run_169 : topTrue code row31 2000 11 [.int .i64 (.lit (169)), .int .i64 (.sym 0 [.mk 1 0 0 65535])] = true := by kernel_rfl
theorem run_170 : topTrue code row31 2000 11 [.int .i64 (.lit (170)), .int .i64 (.sym 0 [.mk 1 0 0 65535])] = true := by kernel_rfl
theorem run_171 : topTrue code row31 2000 11 [.int .i64 (.lit (171)), .int .i64 (.sym 0 [.mk 1 0 0 65535])] = true := by kernel_rfl
theorem run_172 : topTrue code row31 2000 11 [.int .i64 (.lit (172)), .int .i64 (.sym 0 [.mk 1 0 0 65535])] = true := by kernel_rfl
theorem run_173 : topTrue code row31 2000 11 [.int .i64 (.lit (173)), .int .i64 (.sym 0 [.mk 1 0 0 65535])] = true := by kernel_rfl
theorem run_174 : topTrue code row31 2000 11 [.int .i64 (.lit (174)), .int .i64 (.sym 0 [.mk 1 0 0 65535])] = true := by kernel_rfl
theorem run_175 : topTrue code row31 2000 11 [.int .i64 (.lit (175)), .int .i64 (.sym 0 [.mk 1 0 0 65535])] = true := by kernel_rfl
theorem run_176 : topTrue code row31 2000 11 [.int .i64 (.lit (176)), .int .i64 (.sym 0 [.mk 1 0 0 65535])] = true := by kernel_rfl
theorem run_177 : topTrue code row31 2000 11 [.int .i64 (.lit (177)), .int .i64 (.sym 0 [.mk 1 0 0 65535])] = true := by kernel_rfl
theorem run_178 : topTrue code row31 2000 11 [.int .i64 (.lit (178)), .int .i64 (.sym 0 [.mk 1 0 0 65535])] = true := by kernel_rfl
theorem run_179 : topTrue code row31 2000 11 [.int .i64 (.lit (179)), .int .i64 (.sym 0 [.mk 1 0 0 65535])] = true := by kernel_rfl
theorem run_180 : topTrue code row31 2000 11 [.int .i64 (.lit (180)), .int .i64 (.sym 0 [.mk 1 0 0 65535])] = true := by kernel_rfl
theorem run_181 : topTrue code row31 2000 11 [.int .i64 (.lit (181)), .int .i64 (.sym 0 [.mk 1 0 0 65535])] = true := by kernel_rfl
theorem run_182 : topTrue code row31 2000 11 [.int .i64 (.lit (182)), .int .i64 (.sym 0 [.mk 1 0 0 65535])] = true := by kernel_rfl
theorem run_183 : topTrue code row31 2000 11 [.int .i64 (.lit (183)), .int .i64 (.sym 0 [.mk 1 0 0 65535])] = true := by kernel_rfl
theorem run_184 : topTrue code row31 2000 11 [.int .i64 (.lit (184)), .int .i64 (.sym 0 [.mk 1 0 0 65535])] = true := by kernel_rfl
theorem run_185 : topTrue code row31 2000 11 [.int .i64 (.lit (185)), .int .i64 (.sym 0 [.mk 1 0 0 65535])] = true := by kernel_rfl
theorem run_186 : topTrue code row31 2000 11 [.int .i64 (.lit (186)), .int .i64 (.sym 0 [.mk 1 0 0 65535])] = true := by kernel_rfl
theorem run_187 : topTrue code row31 2000 11 [.int .i64 (.lit (187)), .int .i64 (.sym 0 [.mk 1 0 0 65535])] = true := by kernel_rfl
end Go.Proofs.Ytfpllgkcflinbaa.coreOwn
