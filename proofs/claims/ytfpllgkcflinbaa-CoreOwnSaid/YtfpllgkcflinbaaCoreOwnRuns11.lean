/- Runs of the law CoreOwn on the machine of the file YtfpllgkcflinbaaNqC: at these arguments it returns true. -/
import Derived.Test.YtfpllgkcflinbaaNqC
import Derived.Test.YtfpllgkcflinbaaProg
import Derived.KernelRfl
import Derived.Test.YtfpllgkcflinbaaCoreOwnBase
import Derived.Test.YtfpllgkcflinbaaCoreOwnc
namespace Go.Proofs.Ytfpllgkcflinbaa.coreOwn
open Nm
theorem run_348 : topTrue code row31 2000 11 [.int .i64 (.lit (348)), .int .i64 (.sym 0 [.mk 1 0 0 65535])] = true := by kernel_rfl
theorem run_349 : topTrue code row31 2000 11 [.int .i64 (.lit (349)), .int .i64 (.sym 0 [.mk 1 0 0 65535])] = true := by kernel_rfl
theorem run_350 : topTrue code row31 2000 11 [.int .i64 (.lit (350)), .int .i64 (.sym 0 [.mk 1 0 0 65535])] = true := by kernel_rfl
theorem run_351 : topTrue code row31 2000 11 [.int .i64 (.lit (351)), .int .i64 (.sym 0 [.mk 1 0 0 65535])] = true := by kernel_rfl
theorem run_352 : topTrue code row31 2000 11 [.int .i64 (.lit (352)), .int .i64 (.sym 0 [.mk 1 0 0 65535])] = true := by kernel_rfl
theorem run_353 : topTrue code row31 2000 11 [.int .i64 (.lit (353)), .int .i64 (.sym 0 [.mk 1 0 0 65535])] = true := by kernel_rfl
theorem run_354 : topTrue code row31 2000 11 [.int .i64 (.lit (354)), .int .i64 (.sym 0 [.mk 1 0 0 65535])] = true := by kernel_rfl
theorem run_355 : topTrue code row31 2000 11 [.int .i64 (.lit (355)), .int .i64 (.sym 0 [.mk 1 0 0 65535])] = true := by kernel_rfl
theorem run_356 : topTrue code row31 2000 11 [.int .i64 (.lit (356)), .int .i64 (.sym 0 [.mk 1 0 0 65535])] = true := by kernel_rfl
theorem run_357 : topTrue code row31 2000 11 [.int .i64 (.lit (357)), .int .i64 (.sym 0 [.mk 1 0 0 65535])] = true := by kernel_rfl
theorem run_358 : topTrue code row31 2000 11 [.int .i64 (.lit (358)), .int .i64 (.sym 0 [.mk 1 0 0 65535])] = true := by kernel_rfl
theorem run_359 : topTrue code row31 2000 11 [.int .i64 (.lit (359)), .int .i64 (.sym 0 [.mk 1 0 0 65535])] = true := by kernel_rfl
theorem run_360 : topTrue code row31 2000 11 [.int .i64 (.lit (360)), .int .i64 (.sym 0 [.mk 1 0 0 65535])] = true := by kernel_rfl
theorem run_361 : topTrue code row31 2000 11 [.int .i64 (.lit (361)), .int .i64 (.sym 0 [.mk 1 0 0 65535])] = true := by kernel_rfl
theorem run_362 : topTrue code row31 2000 11 [.int .i64 (.lit (362)), .int .i64 (.sym 0 [.mk 1 0 0 65535])] = true := by kernel_rfl
theorem run_363 : topTrue code row31 2000 11 [.int .i64 (.lit (363)), .int .i64 (.sym 0 [.mk 1 0 0 65535])] = true := by kernel_rfl
theorem run_364 : topTrue code row31 2000 11 [.int .i64 (.lit (364)), .int .i64 (.sym 0 [.mk 1 0 0 65535])] = true := by kernel_rfl
theorem run_365 : topTrue code row31 2000 11 [.int .i64 (.lit (365)), .int .i64 (.sym 0 [.mk 1 0 0 65535])] = true := by kernel_rfl
theorem run_366 : topTrue code row31 2000 11 [.int .i64 (.lit (366)), .int .i64 (.sym 0 [.mk 1 0 0 65535])] = true := by kernel_rfl
theorem run_367 : topTrue code row31 2000 11 [.int .i64 (.lit (367)), .int .i64 (.sym 0 [.mk 1 0 0 65535])] = true := by kernel_rfl
theorem run_368 : topTrue code row31 2000 11 [.int .i64 (.lit (368)), .int .i64 (.sym 0 [.mk 1 0 0 65535])] = true := by kernel_rfl
theorem run_369 : topTrue code row31 2000 11 [.int .i64 (.lit (369)), .int .i64 (.sym 0 [.mk 1 0 0 65535])] = true := by kernel_rfl
theorem run_370 : topTrue code row31 2000 11 [.int .i64 (.lit (370)), .int .i64 (.sym 0 [.mk 1 0 0 65535])] = true := by kernel_rfl
theorem run_371 : topTrue code row31 2000 11 [.int .i64 (.lit (371)), .int .i64 (.sym 0 [.mk 1 0 0 65535])] = true := by kernel_rfl
theorem run_372 : topTrue code row31 2000 11 [.int .i64 (.lit (372)), .int .i64 (.sym 0 [.mk 1 0 0 65535])] = true := by kernel_rfl
theorem run_373 : topTrue code row31 2000 11 [.int .i64 (.lit (373)), .int .i64 (.sym 0 [.mk 1 0 0 65535])] = true := by kernel_rfl
theorem run_374 : topTrue code row31 2000 11 [.int .i64 (.lit (374)), .int .i64 (.sym 0 [.mk 1 0 0 65535])] = true := by kernel_rfl
theorem run_375 : topTrue code row31 2000 11 [.int .i64 (.lit (375)), .int .i64 (.sym 0 [.mk 1 0 0 65535])] = true := by kernel_rfl
theorem run_376 : topTrue code row31 2000 11 [.int .i64 (.lit (376)), .int .i64 (.sym 0 [.mk 1 0 0 65535])] = true := by kernel_rfl
theorem run_377 : topTrue code row31 2000 11 [.int .i64 (.lit (377)), .int .i64 (.sym 0 [.mk 1 0 0 65535])] = true := by kernel_rfl
theorem run_378 : topTrue code row31 2000 11 [.int .i64 (.lit (378)), .int .i64 (.sym 0 [.mk 1 0 0 65535])] = true := by kernel_rfl
theorem run_379 : topTrue code row31 2000 11 [.int .i64 (.lit (379)), .int .i64 (.sym 0 [.mk 1 0 0 65535])] = true := by kernel_rfl
end Go.Proofs.Ytfpllgkcflinbaa.coreOwn
