/- Runs of the law CoreOwn on the machine of the file YtfpllgkcflinbaaNqC: at these arguments it returns true. -/
import Derived.Test.YtfpllgkcflinbaaNqC
import Derived.Test.YtfpllgkcflinbaaProg
import Derived.KernelRfl
import Derived.Test.YtfpllgkcflinbaaCoreOwnBase
import Derived.Test.YtfpllgkcflinbaaCoreOwnc
namespace Go.Proofs.Ytfpllgkcflinbaa.coreOwn
open Nm
theorem run_412 : topTrue code row31 2000 11 [.int .i64 (.lit (412)), .int .i64 (.sym 0 [.mk 1 0 0 65535])] = true := by kernel_rfl
theorem run_413 : topTrue code row31 2000 11 [.int .i64 (.lit (413)), .int .i64 (.sym 0 [.mk 1 0 0 65535])] = true := by kernel_rfl
theorem run_414 : topTrue code row31 2000 11 [.int .i64 (.lit (414)), .int .i64 (.sym 0 [.mk 1 0 0 65535])] = true := by kernel_rfl
theorem run_415 : topTrue code row31 2000 11 [.int .i64 (.lit (415)), .int .i64 (.sym 0 [.mk 1 0 0 65535])] = true := by kernel_rfl
theorem run_416 : topTrue code row31 2000 11 [.int .i64 (.lit (416)), .int .i64 (.sym 0 [.mk 1 0 0 65535])] = true := by kernel_rfl
theorem run_417 : topTrue code row31 2000 11 [.int .i64 (.lit (417)), .int .i64 (.sym 0 [.mk 1 0 0 65535])] = true := by kernel_rfl
theorem run_418 : topTrue code row31 2000 11 [.int .i64 (.lit (418)), .int .i64 (.sym 0 [.mk 1 0 0 65535])] = true := by kernel_rfl
theorem run_419 : topTrue code row31 2000 11 [.int .i64 (.lit (419)), .int .i64 (.sym 0 [.mk 1 0 0 65535])] = true := by kernel_rfl
theorem run_420 : topTrue code row31 2000 11 [.int .i64 (.lit (420)), .int .i64 (.sym 0 [.mk 1 0 0 65535])] = true := by kernel_rfl
theorem run_421 : topTrue code row31 2000 11 [.int .i64 (.lit (421)), .int .i64 (.sym 0 [.mk 1 0 0 65535])] = true := by kernel_rfl
theorem run_422 : topTrue code row31 2000 11 [.int .i64 (.lit (422)), .int .i64 (.sym 0 [.mk 1 0 0 65535])] = true := by kernel_rfl
theorem run_423 : topTrue code row31 2000 11 [.int .i64 (.lit (423)), .int .i64 (.sym 0 [.mk 1 0 0 65535])] = true := by kernel_rfl
theorem run_424 : topTrue code row31 2000 11 [.int .i64 (.lit (424)), .int .i64 (.sym 0 [.mk 1 0 0 65535])] = true := by kernel_rfl
theorem run_425 : topTrue code row31 2000 11 [.int .i64 (.lit (425)), .int .i64 (.sym 0 [.mk 1 0 0 65535])] = true := by kernel_rfl
theorem run_426 : topTrue code row31 2000 11 [.int .i64 (.lit (426)), .int .i64 (.sym 0 [.mk 1 0 0 65535])] = true := by kernel_rfl
theorem run_427 : topTrue code row31 2000 11 [.int .i64 (.lit (427)), .int .i64 (.sym 0 [.mk 1 0 0 65535])] = true := by kernel_rfl
theorem run_428 : topTrue code row31 2000 11 [.int .i64 (.lit (428)), .int .i64 (.sym 0 [.mk 1 0 0 65535])] = true := by kernel_rfl
theorem run_429 : topTrue code row31 2000 11 [.int .i64 (.lit (429)), .int .i64 (.sym 0 [.mk 1 0 0 65535])] = true := by kernel_rfl
theorem run_430 : topTrue code row31 2000 11 [.int .i64 (.lit (430)), .int .i64 (.sym 0 [.mk 1 0 0 65535])] = true := by kernel_rfl
theorem run_431 : topTrue code row31 2000 11 [.int .i64 (.lit (431)), .int .i64 (.sym 0 [.mk 1 0 0 65535])] = true := by kernel_rfl
theorem run_432 : topTrue code row31 2000 11 [.int .i64 (.lit (432)), .int .i64 (.sym 0 [.mk 1 0 0 65535])] = true := by kernel_rfl
theorem run_433 : topTrue code row31 2000 11 [.int .i64 (.lit (433)), .int .i64 (.sym 0 [.mk 1 0 0 65535])] = true := by kernel_rfl
theorem run_434 : topTrue code row31 2000 11 [.int .i64 (.lit (434)), .int .i64 (.sym 0 [.mk 1 0 0 65535])] = true := by kernel_rfl
theorem run_435 : topTrue code row31 2000 11 [.int .i64 (.lit (435)), .int .i64 (.sym 0 [.mk 1 0 0 65535])] = true := by kernel_rfl
theorem run_436 : topTrue code row31 2000 11 [.int .i64 (.lit (436)), .int .i64 (.sym 0 [.mk 1 0 0 65535])] = true := by kernel_rfl
theorem run_437 : topTrue code row31 2000 11 [.int .i64 (.lit (437)), .int .i64 (.sym 0 [.mk 1 0 0 65535])] = true := by kernel_rfl
theorem run_438 : topTrue code row31 2000 11 [.int .i64 (.lit (438)), .int .i64 (.sym 0 [.mk 1 0 0 65535])] = true := by kernel_rfl
theorem run_439 : topTrue code row31 2000 11 [.int .i64 (.lit (439)), .int .i64 (.sym 0 [.mk 1 0 0 65535])] = true := by kernel_rfl
theorem run_440 : topTrue code row31 2000 11 [.int .i64 (.lit (440)), .int .i64 (.sym 0 [.mk 1 0 0 65535])] = true := by kernel_rfl
theorem run_441 : topTrue code row31 2000 11 [.int .i64 (.lit (441)), .int .i64 (.sym 0 [.mk 1 0 0 65535])] = true := by kernel_rfl
theorem run_442 : topTrue code row31 2000 11 [.int .i64 (.lit (442)), .int .i64 (.sym 0 [.mk 1 0 0 65535])] = true := by kernel_rfl
theorem run_443 : topTrue code row31 2000 11 [.int .i64 (.lit (443)), .int .i64 (.sym 0 [.mk 1 0 0 65535])] = true := by kernel_rfl
end Go.Proofs.Ytfpllgkcflinbaa.coreOwn
