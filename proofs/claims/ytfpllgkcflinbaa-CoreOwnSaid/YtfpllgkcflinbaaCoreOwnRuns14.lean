/- Runs of the law CoreOwn on the machine of the file YtfpllgkcflinbaaNqC: at these arguments it returns true. -/
import Derived.Test.YtfpllgkcflinbaaNqC
import Derived.Test.YtfpllgkcflinbaaProg
import Derived.KernelRfl
import Derived.Test.YtfpllgkcflinbaaCoreOwnBase
import Derived.Test.YtfpllgkcflinbaaCoreOwnc
namespace Go.Proofs.Ytfpllgkcflinbaa.coreOwn
open Nm
theorem run_444 : topTrue code row31 2000 11 [.int .i64 (.lit (444)), .int .i64 (.sym 0 [.mk 1 0 0 65535])] = true := by kernel_rfl
theorem run_445 : topTrue code row31 2000 11 [.int .i64 (.lit (445)), .int .i64 (.sym 0 [.mk 1 0 0 65535])] = true := by kernel_rfl
theorem run_446 : topTrue code row31 2000 11 [.int .i64 (.lit (446)), .int .i64 (.sym 0 [.mk 1 0 0 65535])] = true := by kernel_rfl
theorem run_447 : topTrue code row31 2000 11 [.int .i64 (.lit (447)), .int .i64 (.sym 0 [.mk 1 0 0 65535])] = true := by kernel_rfl
theorem run_448 : topTrue code row31 2000 11 [.int .i64 (.lit (448)), .int .i64 (.sym 0 [.mk 1 0 0 65535])] = true := by kernel_rfl
theorem run_449 : topTrue code row31 2000 11 [.int .i64 (.lit (449)), .int .i64 (.sym 0 [.mk 1 0 0 65535])] = true := by kernel_rfl
theorem run_450 : topTrue code row31 2000 11 [.int .i64 (.lit (450)), .int .i64 (.sym 0 [.mk 1 0 0 65535])] = true := by kernel_rfl
theorem run_451 : topTrue code row31 2000 11 [.int .i64 (.lit (451)), .int .i64 (.sym 0 [.mk 1 0 0 65535])] = true := by kernel_rfl
theorem run_452 : topTrue code row31 2000 11 [.int .i64 (.lit (452)), .int .i64 (.sym 0 [.mk 1 0 0 65535])] = true := by kernel_rfl
theorem run_453 : topTrue code row31 2000 11 [.int .i64 (.lit (453)), .int .i64 (.sym 0 [.mk 1 0 0 65535])] = true := by kernel_rfl
theorem run_454 : topTrue code row31 2000 11 [.int .i64 (.lit (454)), .int .i64 (.sym 0 [.mk 1 0 0 65535])] = true := by kernel_rfl
theorem run_455 : topTrue code row31 2000 11 [.int .i64 (.lit (455)), .int .i64 (.sym 0 [.mk 1 0 0 65535])] = true := by kernel_rfl
theorem run_456 : topTrue code row31 2000 11 [.int .i64 (.lit (456)), .int .i64 (.sym 0 [.mk 1 0 0 65535])] = true := by kernel_rfl
theorem run_457 : topTrue code row31 2000 11 [.int .i64 (.lit (457)), .int .i64 (.sym 0 [.mk 1 0 0 65535])] = true := by kernel_rfl
theorem run_458 : topTrue code row31 2000 11 [.int .i64 (.lit (458)), .int .i64 (.sym 0 [.mk 1 0 0 65535])] = true := by kernel_rfl
theorem run_459 : topTrue code row31 2000 11 [.int .i64 (.lit (459)), .int .i64 (.sym 0 [.mk 1 0 0 65535])] = true := by kernel_rfl
theorem run_460 : topTrue code row31 2000 11 [.int .i64 (.lit (460)), .int .i64 (.sym 0 [.mk 1 0 0 65535])] = true := by kernel_rfl
theorem run_461 : topTrue code row31 2000 11 [.int .i64 (.lit (461)), .int .i64 (.sym 0 [.mk 1 0 0 65535])] = true := by kernel_rfl
theorem run_462 : topTrue code row31 2000 11 [.int .i64 (.lit (462)), .int .i64 (.sym 0 [.mk 1 0 0 65535])] = true := by kernel_rfl
theorem run_463 : topTrue code row31 2000 11 [.int .i64 (.lit (463)), .int .i64 (.sym 0 [.mk 1 0 0 65535])] = true := by kernel_rfl
theorem run_464 : topTrue code row31 2000 11 [.int .i64 (.lit (464)), .int .i64 (.sym 0 [.mk 1 0 0 65535])] = true := by kernel_rfl
theorem run_465 : topTrue code row31 2000 11 [.int .i64 (.lit (465)), .int .i64 (.sym 0 [.mk 1 0 0 65535])] = true := by kernel_rfl
theorem run_466 : topTrue code row31 2000 11 [.int .i64 (.lit (466)), .int .i64 (.sym 0 [.mk 1 0 0 65535])] = true := by kernel_rfl
theorem run_467 : topTrue code row31 2000 11 [.int .i64 (.lit (467)), .int .i64 (.sym 0 [.mk 1 0 0 65535])] = true := by kernel_rfl
theorem run_468 : topTrue code row31 2000 11 [.int .i64 (.lit (468)), .int .i64 (.sym 0 [.mk 1 0 0 65535])] = true := by kernel_rfl
theorem run_469 : topTrue code row31 2000 11 [.int .i64 (.lit (469)), .int .i64 (.sym 0 [.mk 1 0 0 65535])] = true := by kernel_rfl
theorem run_470 : topTrue code row31 2000 11 [.int .i64 (.lit (470)), .int .i64 (.sym 0 [.mk 1 0 0 65535])] = true := by kernel_rfl
theorem run_471 : topTrue code row31 2000 11 [.int .i64 (.lit (471)), .int .i64 (.sym 0 [.mk 1 0 0 65535])] = true := by kernel_rfl
theorem run_472 : topTrue code row31 2000 11 [.int .i64 (.lit (472)), .int .i64 (.sym 0 [.mk 1 0 0 65535])] = true := by kernel_rfl
theorem run_473 : topTrue code row31 2000 11 [.int .i64 (.lit (473)), .int .i64 (.sym 0 [.mk 1 0 0 65535])] = true := by kernel_rfl
theorem run_474 : topTrue code row31 2000 11 [.int .i64 (.lit (474)), .int .i64 (.sym 0 [.mk 1 0 0 65535])] = true := by kernel_rfl
theorem run_475 : topTrue code row31 2000 11 [.int .i64 (.lit (475)), .int .i64 (.sym 0 [.mk 1 0 0 65535])] = true := by kernel_rfl
end Go.Proofs.Ytfpllgkcflinbaa.coreOwn
