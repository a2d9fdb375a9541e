/- Runs of the law CoreOwn on the machine of the file YtfpllgkcflinbaaNqC: at these arguments it returns true. -/
import Derived.Test.YtfpllgkcflinbaaNqC
import Derived.Test.YtfpllgkcflinbaaProg
import Derived.KernelRfl
import Derived.Test.YtfpllgkcflinbaaCoreOwnBase
import Derived.Test.YtfpllgkcflinbaaCoreOwnc
namespace Go.Proofs.Ytfpllgkcflinbaa.coreOwn
open Nm
theorem run_188 : topTrue code row31 2000 11 [.int .i64 (.lit (188)), .int .i64 (.sym 0 [.mk 1 0 0 65535])] = true := by kernel_rfl
theorem run_189 : topTrue code row31 2000 11 [.int .i64 (.lit (189)), .int .i64 (.sym 0 [.mk 1 0 0 65535])] = true := by kernel_rfl
theorem run_190 : topTrue code row31 2000 11 [.int .i64 (.lit (190)), .int .i64 (.sym 0 [.mk 1 0 0 65535])] = true := by kernel_rfl
theorem run_191 : topTrue code row31 2000 11 [.int .i64 (.lit (191)), .int .i64 (.sym 0 [.mk 1 0 0 65535])] = true := by kernel_rfl
theorem run_192 : topTrue code row31 2000 11 [.int .i64 (.lit (192)), .int .i64 (.sym 0 [.mk 1 0 0 65535])] = true := by kernel_rfl
theorem run_193 : topTrue code row31 2000 11 [.int .i64 (.lit (193)), .int .i64 (.sym 0 [.mk 1 0 0 65535])] = true := by kernel_rfl
theorem run_194 : topTrue code row31 2000 11 [.int .i64 (.lit (194)), .int .i64 (.sym 0 [.mk 1 0 0 65535])] = true := by kernel_rfl
theorem run_195 : topTrue code row31 2000 11 [.int .i64 (.lit (195)), .int .i64 (.sym 0 [.mk 1 0 0 65535])] = true := by kernel_rfl
theorem run_196 : topTrue code row31 2000 11 [.int .i64 (.lit (196)), .int .i64 (.sym 0 [.mk 1 0 0 65535])] = true := by kernel_rfl
theorem run_197 : topTrue code row31 2000 11 [.int .i64 (.lit (197)), .int .i64 (.sym 0 [.mk 1 0 0 65535])] = true := by kernel_rfl
theorem run_198 : topTrue code row31 2000 11 [.int .i64 (.lit (198)), .int .i64 (.sym 0 [.mk 1 0 0 65535])] = true := by kernel_rfl
theorem run_199 : topTrue code row31 2000 11 [.int .i64 (.lit (199)), .int .i64 (.sym 0 [.mk 1 0 0 65535])] = true := by kernel_rfl
theorem run_200 : topTrue code row31 2000 11 [.int .i64 (.lit (200)), .int .i64 (.sym 0 [.mk 1 0 0 65535])] = true := by kernel_rfl
theorem run_201 : topTrue code row31 2000 11 [.int .i64 (.lit (201)), .int .i64 (.sym 0 [.mk 1 0 0 65535])] = true := by kernel_rfl
theorem run_202 : topTrue code row31 2000 11 [.int .i64 (.lit (202)), .int .i64 (.sym 0 [.mk 1 0 0 65535])] = true := by kernel_rfl
theorem run_203 : topTrue code row31 2000 11 [.int .i64 (.lit (203)), .int .i64 (.sym 0 [.mk 1 0 0 65535])] = true := by kernel_rfl
theorem run_204 : topTrue code row31 2000 11 [.int .i64 (.lit (204)), .int .i64 (.sym 0 [.mk 1 0 0 65535])] = true := by kernel_rfl
theorem run_205 : topTrue code row31 2000 11 [.int .i64 (.lit (205)), .int .i64 (.sym 0 [.mk 1 0 0 65535])] = true := by kernel_rfl
theorem run_206 : topTrue code row31 2000 11 [.int .i64 (.lit (206)), .int .i64 (.sym 0 [.mk 1 0 0 65535])] = true := by kernel_rfl
theorem run_207 : topTrue code row31 2000 11 [.int .i64 (.lit (207)), .int .i64 (.sym 0 [.mk 1 0 0 65535])] = true := by kernel_rfl
theorem run_208 : topTrue code row31 2000 11 [.int .i64 (.lit (208)), .int .i64 (.sym 0 [.mk 1 0 0 65535])] = true := by kernel_rfl
theorem run_209 : topTrue code row31 2000 11 [.int .i64 (.lit (209)), .int .i64 (.sym 0 [.mk 1 0 0 65535])] = true := by kernel_rfl
theorem run_210 : topTrue code row31 2000 11 [.int .i64 (.lit (210)), .int .i64 (.sym 0 [.mk 1 0 0 65535])] = true := by kernel_rfl
theorem run_211 : topTrue code row31 2000 11 [.int .i64 (.lit (211)), .int .i64 (.sym 0 [.mk 1 0 0 65535])] = true := by kernel_rfl
theorem run_212 : topTrue code row31 2000 11 [.int .i64 (.lit (212)), .int .i64 (.sym 0 [.mk 1 0 0 65535])] = true := by kernel_rfl
theorem run_213 : topTrue code row31 2000 11 [.int .i64 (.lit (213)), .int .i64 (.sym 0 [.mk 1 0 0 65535])] = true := by kernel_rfl
theorem run_214 : topTrue code row31 2000 11 [.int .i64 (.lit (214)), .int .i64 (.sym 0 [.mk 1 0 0 65535])] = true := by kernel_rfl
theorem run_215 : topTrue code row31 2000 11 [.int .i64 (.lit (215)), .int .i64 (.sym 0 [.mk 1 0 0 65535])] = true := by kernel_rfl
theorem run_216 : topTrue code row31 2000 11 [.int .i64 (.lit (216)), .int .i64 (.sym 0 [.mk 1 0 0 65535])] = true := by kernel_rfl
theorem run_217 : topTrue code row31 2000 11 [.int .i64 (.lit (217)), .int .i64 (.sym 0 [.mk 1 0 0 65535])] = true := by kernel_rfl
theorem run_218 : topTrue code row31 2000 11 [.int .i64 (.lit (218)), .int .i64 (.sym 0 [.mk 1 0 0 65535])] = true := by kernel_rfl
theorem run_219 : topTrue code row31 2000 11 [.int .i64 (.lit (219)), .int .i64 (.sym 0 [.mk 1 0 0 65535])] = true := by kernel_rfl
end Go.Proofs.Ytfpllgkcflinbaa.coreOwn
