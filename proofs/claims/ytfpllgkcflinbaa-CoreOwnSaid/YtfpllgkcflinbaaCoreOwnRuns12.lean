/- Runs of the law CoreOwn on the machine of the file YtfpllgkcflinbaaNqC: at these arguments it returns true. -/
import Derived.Test.YtfpllgkcflinbaaNqC
import Derived.Test.YtfpllgkcflinbaaProg
import Derived.KernelRfl
import Derived.Test.YtfpllgkcflinbaaCoreOwnBase
import Derived.Test.YtfpllgkcflinbaaCoreOwnc
namespace Go.Proofs.Ytfpllgkcflinbaa.coreOwn
open Nm
theorem run_380 : topTrue code row31 2000 11 [.int .i64 (.lit (380)), .int .i64 (.sym 0 [.mk 1 0 0 65535])] = true := by kernel_rfl
theorem run_381 : topTrue code row31 2000 11 [.int .i64 (.lit (381)), .int .i64 (.sym 0 [.mk 1 0 0 65535])] = true := by kernel_rfl
theorem run_382 : topTrue code row31 2000 11 [.int .i64 (.lit (382)), .int .i64 (.sym 0 [.mk 1 0 0 65535])] = true := by kernel_rfl
theorem run_383 : topTrue code row31 2000 11 [.int .i64 (.lit (383)), .int .i64 (.sym 0 [.mk 1 0 0 65535])] = true := by kernel_rfl
theorem run_384 : topTrue code row31 2000 11 [.int .i64 (.lit (384)), .int .i64 (.sym 0 [.mk 1 0 0 65535])] = true := by kernel_rfl
theorem run_385 : topTrue code row31 2000 11 [.int .i64 (.lit (385)), .int .i64 (.sym 0 [.mk 1 0 0 65535])] = true := by kernel_rfl
theorem run_386 : topTrue code row31 2000 11 [.int .i64 (.lit (386)), .int .i64 (.sym 0 [.mk 1 0 0 65535])] = true := by kernel_rfl
theorem run_387 : topTrue code row31 2000 11 [.int .i64 (.lit (387)), .int .i64 (.sym 0 [.mk 1 0 0 65535])] = true := by kernel_rfl
theorem run_388 : topTrue code row31 2000 11 [.int .i64 (.lit (388)), .int .i64 (.sym 0 [.mk 1 0 0 65535])] = true := by kernel_rfl
theorem run_389 : topTrue code row31 2000 11 [.int .i64 (.lit (389)), .int .i64 (.sym 0 [.mk 1 0 0 65535])] = true := by kernel_rfl
theorem run_390 : topTrue code row31 2000 11 [.int .i64 (.lit (390)), .int .i64 (.sym 0 [.mk 1 0 0 65535])] = true := by kernel_rfl
theorem run_391 : topTrue code row31 2000 11 [.int .i64 (.lit (391)), .int .i64 (.sym 0 [.mk 1 0 0 65535])] = true := by kernel_rfl
theorem run_392 : topTrue code row31 2000 11 [.int .i64 (.lit (392)), .int .i64 (.sym 0 [.mk 1 0 0 65535])] = true := by kernel_rfl
theorem run_393 : topTrue code row31 2000 11 [.int .i64 (.lit (393)), .int .i64 (.sym 0 [.mk 1 0 0 65535])] = true := by kernel_rfl
theorem run_394 : topTrue code row31 2000 11 [.int .i64 (.lit (394)), .int .i64 (.sym 0 [.mk 1 0 0 65535])] = true := by kernel_rfl
theorem run_395 : topTrue code row31 2000 11 [.int .i64 (.lit (395)), .int .i64 (.sym 0 [.mk 1 0 0 65535])] = true := by kernel_rfl
theorem run_396 : topTrue code row31 2000 11 [.int .i64 (.lit (396)), .int .i64 (.sym 0 [.mk 1 0 0 65535])] = true := by kernel_rfl
theorem run_397 : topTrue code row31 2000 11 [.int .i64 (.lit (397)), .int .i64 (.sym 0 [.mk 1 0 0 65535])] = true := by kernel_rfl
theorem run_398 : topTrue code row31 2000 11 [.int .i64 (.lit (398)), .int .i64 (.sym 0 [.mk 1 0 0 65535])] = true := by kernel_rfl
theorem run_399 : topTrue code row31 2000 11 [.int .i64 (.lit (399)), .int .i64 (.sym 0 [.mk 1 0 0 65535])] = true := by kernel_rfl
theorem run_400 : topTrue code row31 2000 11 [.int .i64 (.lit (400)), .int .i64 (.sym 0 [.mk 1 0 0 65535])] = true := by kernel_rfl
theorem run_401 : topTrue code row31 2000 11 [.int .i64 (.lit (401)), .int .i64 (.sym 0 [.mk 1 0 0 65535])] = true := by kernel_rfl
theorem run_402 : topTrue code row31 2000 11 [.int .i64 (.lit (402)), .int .i64 (.sym 0 [.mk 1 0 0 65535])] = true := by kernel_rfl
theorem run_403 : topTrue code row31 2000 11 [.int .i64 (.lit (403)), .int .i64 (.sym 0 [.mk 1 0 0 65535])] = true := by kernel_rfl
theorem run_404 : topTrue code row31 2000 11 [.int .i64 (.lit (404)), .int .i64 (.sym 0 [.mk 1 0 0 65535])] = true := by kernel_rfl
theorem run_405 : topTrue code row31 2000 11 [.int .i64 (.lit (405)), .int .i64 (.sym 0 [.mk 1 0 0 65535])] = true := by kernel_rfl
theorem run_406 : topTrue code row31 2000 11 [.int .i64 (.lit (406)), .int .i64 (.sym 0 [.mk 1 0 0 65535])] = true := by kernel_rfl
theorem run_407 : topTrue code row31 2000 11 [.int .i64 (.lit (407)), .int .i64 (.sym 0 [.mk 1 0 0 65535])] = true := by kernel_rfl
theorem run_408 : topTrue code row31 2000 11 [.int .i64 (.lit (408)), .int .i64 (.sym 0 [.mk 1 0 0 65535])] = true := by kernel_rfl
theorem run_409 : topTrue code row31 2000 11 [.int .i64 (.lit (409)), .int .i64 (.sym 0 [.mk 1 0 0 65535])] = true := by kernel_rfl
theorem run_410 : topTrue code row31 2000 11 [.int .i64 (.lit (410)), .int .i64 (.sym 0 [.mk 1 0 0 65535])] = true := by kernel_rfl
theorem run_411 : topTrue code row31 2000 11 [.int .i64 (.lit (411)), .int .i64 (.sym 0 [.mk 1 0 0 65535])] = true := by kernel_rfl
end Go.Proofs.Ytfpllgkcflinbaa.coreOwn
