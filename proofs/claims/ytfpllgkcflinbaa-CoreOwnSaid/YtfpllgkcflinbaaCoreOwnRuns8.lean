/- Runs of the law CoreOwn on the machine of the file YtfpllgkcflinbaaNqC: at these arguments it returns true. -/
import Derived.Test.YtfpllgkcflinbaaNqC
import Derived.Test.YtfpllgkcflinbaaProg
import Derived.KernelRfl
import Derived.Test.YtfpllgkcflinbaaCoreOwnBase
import Derived.Test.YtfpllgkcflinbaaCoreOwnc
namespace Go.Proofs.Ytfpllgkcflinbaa.coreOwn
open Nm
theorem run_252 : topTrue code row31 2000 11 [.int .i64 (.lit (252)), .int .i64 (.sym 0 [.mk 1 0 0 65535])] = true := by kernel_rfl
theorem run_253 : topTrue code row31 2000 11 [.int .i64 (.lit (253)), .int .i64 (.sym 0 [.mk 1 0 0 65535])] = true := by kernel_rfl
theorem run_254 : topTrue code row31 2000 11 [.int .i64 (.lit (254)), .int .i64 (.sym 0 [.mk 1 0 0 65535])] = true := by kernel_rfl
theorem run_255 : topTrue code row31 2000 11 [.int .i64 (.lit (255)), .int .i64 (.sym 0 [.mk 1 0 0 65535])] = true := by kernel_rfl
theorem run_256 : topTrue code row31 2000 11 [.int .i64 (.lit (256)), .int .i64 (.sym 0 [.mk 1 0 0 65535])] = true := by kernel_rfl
theorem run_257 : topTrue code row31 2000 11 [.int .i64 (.lit (257)), .int .i64 (.sym 0 [.mk 1 0 0 65535])] = true := by kernel_rfl
theorem run_258 : topTrue code row31 2000 11 [.int .i64 (.lit (258)), .int .i64 (.sym 0 [.mk 1 0 0 65535])] = true := by kernel_rfl
theorem run_259 : topTrue code row31 2000 11 [.int .i64 (.lit (259)), .int .i64 (.sym 0 [.mk 1 0 0 65535])] = true := by kernel_rfl
theorem run_260 : topTrue code row31 2000 11 [.int .i64 (.lit (260)), .int .i64 (.sym 0 [.mk 1 0 0 65535])] = true := by kernel_rfl
theorem run_261 : topTrue code row31 2000 11 [.int .i64 (.lit (261)), .int .i64 (.sym 0 [.mk 1 0 0 65535])] = true := by kernel_rfl
theorem run_262 : topTrue code row31 2000 11 [.int .i64 (.lit (262)), .int .i64 (.sym 0 [.mk 1 0 0 65535])] = true := by kernel_rfl
theorem run_263 : topTrue code row31 2000 11 [.int .i64 (.lit (263)), .int .i64 (.sym 0 [.mk 1 0 0 65535])] = true := by kernel_rfl
theorem run_264 : topTrue code row31 2000 11 [.int .i64 (.lit (264)), .int .i64 (.sym 0 [.mk 1 0 0 65535])] = true := by kernel_rfl
theorem run_265 : topTrue code row31 2000 11 [.int .i64 (.lit (265)), .int .i64 (.sym 0 [.mk 1 0 0 65535])] = true := by kernel_rfl
theorem run_266 : topTrue code row31 2000 11 [.int .i64 (.lit (266)), .int .i64 (.sym 0 [.mk 1 0 0 65535])] = true := by kernel_rfl
theorem run_267 : topTrue code row31 2000 11 [.int .i64 (.lit (267)), .int .i64 (.sym 0 [.mk 1 0 0 65535])] = true := by kernel_rfl
theorem run_268 : topTrue code row31 2000 11 [.int .i64 (.lit (268)), .int .i64 (.sym 0 [.mk 1 0 0 65535])] = true := by kernel_rfl
theorem run_269 : topTrue code row31 2000 11 [.int .i64 (.lit (269)), .int .i64 (.sym 0 [.mk 1 0 0 65535])] = true := by kernel_rfl
theorem run_270 : topTrue code row31 2000 11 [.int .i64 (.lit (270)), .int .i64 (.sym 0 [.mk 1 0 0 65535])] = true := by kernel_rfl
theorem run_271 : topTrue code row31 2000 11 [.int .i64 (.lit (271)), .int .i64 (.sym 0 [.mk 1 0 0 65535])] = true := by kernel_rfl
theorem run_272 : topTrue code row31 2000 11 [.int .i64 (.lit (272)), .int .i64 (.sym 0 [.mk 1 0 0 65535])] = true := by kernel_rfl
theorem run_273 : topTrue code row31 2000 11 [.int .i64 (.lit (273)), .int .i64 (.sym 0 [.mk 1 0 0 65535])] = true := by kernel_rfl
theorem run_274 : topTrue code row31 2000 11 [.int .i64 (.lit (274)), .int .i64 (.sym 0 [.mk 1 0 0 65535])] = true := by kernel_rfl
theorem run_275 : topTrue code row31 2000 11 [.int .i64 (.lit (275)), .int .i64 (.sym 0 [.mk 1 0 0 65535])] = true := by kernel_rfl
theorem run_276 : topTrue code row31 2000 11 [.int .i64 (.lit (276)), .int .i64 (.sym 0 [.mk 1 0 0 65535])] = true := by kernel_rfl
theorem run_277 : topTrue code row31 2000 11 [.int .i64 (.lit (277)), .int .i64 (.sym 0 [.mk 1 0 0 65535])] = true := by kernel_rfl
theorem run_278 : topTrue code row31 2000 11 [.int .i64 (.lit (278)), .int .i64 (.sym 0 [.mk 1 0 0 65535])] = true := by kernel_rfl
theorem run_279 : topTrue code row31 2000 11 [.int .i64 (.lit (279)), .int .i64 (.sym 0 [.mk 1 0 0 65535])] = true := by kernel_rfl
theorem run_280 : topTrue code row31 2000 11 [.int .i64 (.lit (280)), .int .i64 (.sym 0 [.mk 1 0 0 65535])] = true := by kernel_rfl
theorem run_281 : topTrue code row31 2000 11 [.int .i64 (.lit (281)), .int .i64 (.sym 0 [.mk 1 0 0 65535])] = true := by kernel_rfl
theorem run_282 : topTrue code row31 2000 11 [.int .i64 (.lit (282)), .int .i64 (.sym 0 [.mk 1 0 0 65535])] = true := by kernel_rfl
theorem run_283 : topTrue code row31 2000 11 [.int .i64 (.lit (283)), .int .i64 (.sym 0 [.mk 1 0 0 65535])] = true := by kernel_rfl
end Go.Proofs.Ytfpllgkcflinbaa.coreOwn
