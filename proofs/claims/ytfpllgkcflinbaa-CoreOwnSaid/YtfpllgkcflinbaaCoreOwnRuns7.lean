/- Runs of the law CoreOwn on the machine of the file YtfpllgkcflinbaaNqC: at these arguments it returns true. -/
import Derived.Test.YtfpllgkcflinbaaNqC
import Derived.Test.YtfpllgkcflinbaaProg
import Derived.KernelRfl
import Derived.Test.YtfpllgkcflinbaaCoreOwnBase
import Derived.Test.YtfpllgkcflinbaaCoreOwnc
namespace Go.Proofs.Ytfpllgkcflinbaa.coreOwn
open Nm
theorem run_220 : topTrue code row31 2000 11 [.int .i64 (.lit (220)), .int .i64 (.sym 0 [.mk 1 0 0 65535])] = true := by kernel_rfl
theorem run_221 : topTrue code row31 2000 11 [.int .i64 (.lit (221)), .int .i64 (.sym 0 [.mk 1 0 0 65535])] = true := by kernel_rfl
theorem run_222 : topTrue code row31 2000 11 [.int .i64 (.lit (222)), .int .i64 (.sym 0 [.mk 1 0 0 65535])] = true := by kernel_rfl
theorem run_223 : topTrue code row31 2000 11 [.int .i64 (.lit (223)), .int .i64 (.sym 0 [.mk 1 0 0 65535])] = true := by kernel_rfl
theorem run_224 : topTrue code row31 2000 11 [.int .i64 (.lit (224)), .int .i64 (.sym 0 [.mk 1 0 0 65535])] = true := by kernel_rfl
theorem run_225 : topTrue code row31 2000 11 [.int .i64 (.lit (225)), .int .i64 (.sym 0 [.mk 1 0 0 65535])] = true := by kernel_rfl
theorem run_226 : topTrue code row31 2000 11 [.int .i64 (.lit (226)), .int .i64 (.sym 0 [.mk 1 0 0 65535])] = true := by kernel_rfl
theorem run_227 : topTrue code row31 2000 11 [.int .i64 (.lit (227)), .int .i64 (.sym 0 [.mk 1 0 0 65535])] = true := by kernel_rfl
theorem run_228 : topTrue code row31 2000 11 [.int .i64 (.lit (228)), .int .i64 (.sym 0 [.mk 1 0 0 65535])] = true := by kernel_rfl
theorem run_229 : topTrue code row31 2000 11 [.int .i64 (.lit (229)), .int .i64 (.sym 0 [.mk 1 0 0 65535])] = true := by kernel_rfl
theorem run_230 : topTrue code row31 2000 11 [.int .i64 (.lit (230)), .int .i64 (.sym 0 [.mk 1 0 0 65535])] = true := by kernel_rfl
theorem run_231 : topTrue code row31 2000 11 [.int .i64 (.lit (231)), .int .i64 (.sym 0 [.mk 1 0 0 65535])] = true := by kernel_rfl
theorem run_232 : topTrue code row31 2000 11 [.int .i64 (.lit (232)), .int .i64 (.sym 0 [.mk 1 0 0 65535])] = true := by kernel_rfl
theorem run_233 : topTrue code row31 2000 11 [.int .i64 (.lit (233)), .int .i64 (.sym 0 [.mk 1 0 0 65535])] = true := by kernel_rfl
theorem run_234 : topTrue code row31 2000 11 [.int .i64 (.lit (234)), .int .i64 (.sym 0 [.mk 1 0 0 65535])] = true := by kernel_rfl
theorem run_235 : topTrue code row31 2000 11 [.int .i64 (.lit (235)), .int .i64 (.sym 0 [.mk 1 0 0 65535])] = true := by kernel_rfl
theorem run_236 : topTrue code row31 2000 11 [.int .i64 (.lit (236)), .int .i64 (.sym 0 [.mk 1 0 0 65535])] = true := by kernel_rfl
theorem run_237 : topTrue code row31 2000 11 [.int .i64 (.lit (237)), .int .i64 (.sym 0 [.mk 1 0 0 65535])] = true := by kernel_rfl
theorem run_238 : topTrue code row31 2000 11 [.int .i64 (.lit (238)), .int .i64 (.sym 0 [.mk 1 0 0 65535])] = true := by kernel_rfl
theorem run_239 : topTrue code row31 2000 11 [.int .i64 (.lit (239)), .int .i64 (.sym 0 [.mk 1 0 0 65535])] = true := by kernel_rfl
theorem run_240 : topTrue code row31 2000 11 [.int .i64 (.lit (240)), .int .i64 (.sym 0 [.mk 1 0 0 65535])] = true := by kernel_rfl
theorem run_241 : topTrue code row31 2000 11 [.int .i64 (.lit (241)), .int .i64 (.sym 0 [.mk 1 0 0 65535])] = true := by kernel_rfl
theorem run_242 : topTrue code row31 2000 11 [.int .i64 (.lit (242)), .int .i64 (.sym 0 [.mk 1 0 0 65535])] = true := by kernel_rfl
theorem run_243 : topTrue code row31 2000 11 [.int .i64 (.lit (243)), .int .i64 (.sym 0 [.mk 1 0 0 65535])] = true := by kernel_rfl
theorem run_244 : topTrue code row31 2000 11 [.int .i64 (.lit (244)), .int .i64 (.sym 0 [.mk 1 0 0 65535])] = true := by kernel_rfl
theorem run_245 : topTrue code row31 2000 11 [.int .i64 (.lit (245)), .int .i64 (.sym 0 [.mk 1 0 0 65535])] = true := by kernel_rfl
theorem run_246 : topTrue code row31 2000 11 [.int .i64 (.lit (246)), .int .i64 (.sym 0 [.mk 1 0 0 65535])] = true := by kernel_rfl
theorem run_247 : topTrue code row31 2000 11 [.int .i64 (.lit (247)), .int .i64 (.sym 0 [.mk 1 0 0 65535])] = true := by kernel_rfl
theorem run_248 : topTrue code row31 2000 11 [.int .i64 (.lit (248)), .int .i64 (.sym 0 [.mk 1 0 0 65535])] = true := by kernel_rfl
theorem run_249 : topTrue code row31 2000 11 [.int .i64 (.lit (249)), .int .i64 (.sym 0 [.mk 1 0 0 65535])] = true := by kernel_rfl
theorem run_250 : topTrue code row31 2000 11 [.int .i64 (.lit (250)), .int .i64 (.sym 0 [.mk 1 0 0 65535])] = true := by kernel_rfl
theorem run_251 : topTrue code row31 2000 11 [.int .i64 (.lit (251)), .int .i64 (.sym 0 [.mk 1 0 0 65535])] = true := by kernel_rfl
end Go.Proofs.Ytfpllgkcflinbaa.coreOwn
