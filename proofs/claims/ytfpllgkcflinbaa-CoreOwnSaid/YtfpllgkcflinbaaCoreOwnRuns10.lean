/- Runs of the law CoreOwn on the machine of the file YtfpllgkcflinbaaNqC: at these arguments it returns true. -/
import Derived.Test.YtfpllgkcflinbaaNqC
import Derived.Test.YtfpllgkcflinbaaProg
import Derived.KernelRfl
import Derived.Test.YtfpllgkcflinbaaCoreOwnBase
import Derived.Test.YtfpllgkcflinbaaCoreOwnc
namespace Go.Proofs.Ytfpllgkcflinbaa.coreOwn
open Nm
theorem run_316 : topTrue code row31 2000 11 [.int .i64 (.lit (316)), .int .i64 (.sym 0 [.mk 1 0 0 65535])] = true := by kernel_rfl
theorem run_317 : topTrue code row31 2000 11 [.int .i64 (.lit (317)), .int .i64 (.sym 0 [.mk 1 0 0 65535])] = true := by kernel_rfl
theorem run_318 : topTrue code row31 2000 11 [.int .i64 (.lit (318)), .int .i64 (.sym 0 [.mk 1 0 0 65535])] = true := by kernel_rfl
theorem run_319 : topTrue code row31 2000 11 [.int .i64 (.lit (319)), .int .i64 (.sym 0 [.mk 1 0 0 65535])] = true := by kernel_rfl
theorem run_320 : topTrue code row31 2000 11 [.int .i64 (.lit (320)), .int .i64 (.sym 0 [.mk 1 0 0 65535])] = true := by kernel_rfl
theorem run_321 : topTrue code row31 2000 11 [.int .i64 (.lit (321)), .int .i64 (.sym 0 [.mk 1 0 0 65535])] = true := by kernel_rfl
theorem run_322 : topTrue code row31 2000 11 [.int .i64 (.lit (322)), .int .i64 (.sym 0 [.mk 1 0 0 65535])] = true := by kernel_rfl
theorem run_323 : topTrue code row31 2000 11 [.int .i64 (.lit (323)), .int .i64 (.sym 0 [.mk 1 0 0 65535])] = true := by kernel_rfl
theorem run_324 : topTrue code row31 2000 11 [.int .i64 (.lit (324)), .int .i64 (.sym 0 [.mk 1 0 0 65535])] = true := by kernel_rfl
theorem run_325 : topTrue code row31 2000 11 [.int .i64 (.lit (325)), .int .i64 (.sym 0 [.mk 1 0 0 65535])] = true := by kernel_rfl
theorem run_326 : topTrue code row31 2000 11 [.int .i64 (.lit (326)), .int .i64 (.sym 0 [.mk 1 0 0 65535])] = true := by kernel_rfl
theorem run_327 : topTrue code row31 2000 11 [.int .i64 (.lit (327)), .int .i64 (.sym 0 [.mk 1 0 0 65535])] = true := by kernel_rfl
theorem run_328 : topTrue code row31 2000 11 [.int .i64 (.lit (328)), .int .i64 (.sym 0 [.mk 1 0 0 65535])] = true := by kernel_rfl
theorem run_329 : topTrue code row31 2000 11 [.int .i64 (.lit (329)), .int .i64 (.sym 0 [.mk 1 0 0 65535])] = true := by kernel_rfl
theorem run_330 : topTrue code row31 2000 11 [.int .i64 (.lit (330)), .int .i64 (.sym 0 [.mk 1 0 0 65535])] = true := by kernel_rfl
theorem run_331 : topTrue code row31 2000 11 [.int .i64 (.lit (331)), .int .i64 (.sym 0 [.mk 1 0 0 65535])] = true := by kernel_rfl
theorem run_332 : topTrue code row31 2000 11 [.int .i64 (.lit (332)), .int .i64 (.sym 0 [.mk 1 0 0 65535])] = true := by kernel_rfl
theorem run_333 : topTrue code row31 2000 11 [.int .i64 (.lit (333)), .int .i64 (.sym 0 [.mk 1 0 0 65535])] = true := by kernel_rfl
theorem run_334 : topTrue code row31 2000 11 [.int .i64 (.lit (334)), .int .i64 (.sym 0 [.mk 1 0 0 65535])] = true := by kernel_rfl
theorem run_335 : topTrue code row31 2000 11 [.int .i64 (.lit (335)), .int .i64 (.sym 0 [.mk 1 0 0 65535])] = true := by kernel_rfl
theorem run_336 : topTrue code row31 2000 11 [.int .i64 (.lit (336)), .int .i64 (.sym 0 [.mk 1 0 0 65535])] = true := by kernel_rfl
theorem run_337 : topTrue code row31 2000 11 [.int .i64 (.lit (337)), .int .i64 (.sym 0 [.mk 1 0 0 65535])] = true := by kernel_rfl
theorem run_338 : topTrue code row31 2000 11 [.int .i64 (.lit (338)), .int .i64 (.sym 0 [.mk 1 0 0 65535])] = true := by kernel_rfl
theorem run_339 : topTrue code row31 2000 11 [.int .i64 (.lit (339)), .int .i64 (.sym 0 [.mk 1 0 0 65535])] = true := by kernel_rfl
theorem run_340 : topTrue code row31 2000 11 [.int .i64 (.lit (340)), .int .i64 (.sym 0 [.mk 1 0 0 65535])] = true := by kernel_rfl
theorem run_341 : topTrue code row31 2000 11 [.int .i64 (.lit (341)), .int .i64 (.sym 0 [.mk 1 0 0 65535])] = true := by kernel_rfl
theorem run_342 : topTrue code row31 2000 11 [.int .i64 (.lit (342)), .int .i64 (.sym 0 [.mk 1 0 0 65535])] = true := by kernel_rfl
theorem run_343 : topTrue code row31 2000 11 [.int .i64 (.lit (343)), .int .i64 (.sym 0 [.mk 1 0 0 65535])] = true := by kernel_rfl
theorem run_344 : topTrue code row31 2000 11 [.int .i64 (.lit (344)), .int .i64 (.sym 0 [.mk 1 0 0 65535])] = true := by kernel_rfl
theorem run_345 : topTrue code row31 2000 11 [.int .i64 (.lit (345)), .int .i64 (.sym 0 [.mk 1 0 0 65535])] = true := by kernel_rfl
theorem run_346 : topTrue code row31 2000 11 [.int .i64 (.lit (346)), .int .i64 (.sym 0 [.mk 1 0 0 65535])] = true := by kernel_rfl
theorem run_347 : topTrue code row31 2000 11 [.int .i64 (.lit (347)), .int .i64 (.sym 0 [.mk 1 0 0 65535])] = true := by kernel_rfl
end Go.Proofs.Ytfpllgkcflinbaa.coreOwn
