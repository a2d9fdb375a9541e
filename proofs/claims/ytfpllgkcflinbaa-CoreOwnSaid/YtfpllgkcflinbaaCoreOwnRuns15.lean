/- Runs of the law CoreOwn on the machine of the file YtfpllgkcflinbaaNqC: at these arguments it returns true. -/
import Derived.Test.YtfpllgkcflinbaaNqC
import Derived.Test.YtfpllgkcflinbaaProg
import Derived.KernelRfl
import Derived.Test.YtfpllgkcflinbaaCoreOwnBase
import Derived.Test.YtfpllgkcflinbaaCoreOwnc
namespace Go.Proofs.Ytfpllgkcflinbaa.coreOwn
open Nm
theorem run_476 : topTrue code row31 2000 11 [.int .i64 (.lit (476)), .int .i64 (.sym 0 [.mk 1 0 0 65535])] = true := by kernel_rfl
theorem run_477 : topTrue code row31 2000 11 [.int .i64 (.lit (477)), .int .i64 (.sym 0 [.mk 1 0 0 65535])] = true := by kernel_rfl
theorem run_478 : topTrue code row31 2000 11 [.int .i64 (.lit (478)), .int .i64 (.sym 0 [.mk 1 0 0 65535])] = true := by kernel_rfl
theorem run_479 : topTrue code row31 2000 11 [.int .i64 (.lit (479)), .int .i64 (.sym 0 [.mk 1 0 0 65535])] = true := by kernel_rfl
theorem run_480 : topTrue code row31 2000 11 [.int .i64 (.lit (480)), .int .i64 (.sym 0 [.mk 1 0 0 65535])] = true := by kernel_rfl
theorem run_481 : topTrue code row31 2000 11 [.int .i64 (.lit (481)), .int .i64 (.sym 0 [.mk 1 0 0 65535])] = true := by kernel_rfl
theorem run_482 : topTrue code row31 2000 11 [.int .i64 (.lit (482)), .int .i64 (.sym 0 [.mk 1 0 0 65535])] = true := by kernel_rfl
theorem run_483 : topTrue code row31 2000 11 [.int .i64 (.lit (483)), .int .i64 (.sym 0 [.mk 1 0 0 65535])] = true := by kernel_rfl
theorem run_484 : topTrue code row31 2000 11 [.int .i64 (.lit (484)), .int .i64 (.sym 0 [.mk 1 0 0 65535])] = true := by kernel_rfl
theorem run_485 : topTrue code row31 2000 11 [.int .i64 (.lit (485)), .int .i64 (.sym 0 [.mk 1 0 0 65535])] = true := by kernel_rfl
theorem run_486 : topTrue code row31 2000 11 [.int .i64 (.lit (486)), .int .i64 (.sym 0 [.mk 1 0 0 65535])] = true := by kernel_rfl
theorem run_487 : topTrue code row31 2000 11 [.int .i64 (.lit (487)), .int .i64 (.sym 0 [.mk 1 0 0 65535])] = true := by kernel_rfl
theorem run_488 : topTrue code row31 2000 11 [.int .i64 (.lit (488)), .int .i64 (.sym 0 [.mk 1 0 0 65535])] = true := by kernel_rfl
theorem run_489 : topTrue code row31 2000 11 [.int .i64 (.lit (489)), .int .i64 (.sym 0 [.mk 1 0 0 65535])] = true := by kernel_rfl
theorem run_490 : topTrue code row31 2000 11 [.int .i64 (.lit (490)), .int .i64 (.sym 0 [.mk 1 0 0 65535])] = true := by kernel_rfl
theorem run_491 : topTrue code row31 2000 11 [.int .i64 (.lit (491)), .int .i64 (.sym 0 [.mk 1 0 0 65535])] = true := by kernel_rfl
theorem run_492 : topTrue code row31 2000 11 [.int .i64 (.lit (492)), .int .i64 (.sym 0 [.mk 1 0 0 65535])] = true := by kernel_rfl
theorem run_493 : topTrue code row31 2000 11 [.int .i64 (.lit (493)), .int .i64 (.sym 0 [.mk 1 0 0 65535])] = true := by kernel_rfl
theorem run_494 : topTrue code row31 2000 11 [.int .i64 (.lit (494)), .int .i64 (.sym 0 [.mk 1 0 0 65535])] = true := by kernel_rfl
theorem run_495 : topTrue code row31 2000 11 [.int .i64 (.lit (495)), .int .i64 (.sym 0 [.mk 1 0 0 65535])] = true := by kernel_rfl
theorem run_496 : topTrue code row31 2000 11 [.int .i64 (.lit (496)), .int .i64 (.sym 0 [.mk 1 0 0 65535])] = true := by kernel_rfl
theorem run_497 : topTrue code row31 2000 11 [.int .i64 (.lit (497)), .int .i64 (.sym 0 [.mk 1 0 0 65535])] = true := by kernel_rfl
theorem run_498 : topTrue code row31 2000 11 [.int .i64 (.lit (498)), .int .i64 (.sym 0 [.mk 1 0 0 65535])] = true := by kernel_rfl
theorem run_499 : topTrue code row31 2000 11 [.int .i64 (.lit (499)), .int .i64 (.sym 0 [.mk 1 0 0 65535])] = true := by kernel_rfl
theorem run_500 : topTrue code row31 2000 11 [.int .i64 (.lit (500)), .int .i64 (.sym 0 [.mk 1 0 0 65535])] = true := by kernel_rfl
theorem run_501 : topTrue code row31 2000 11 [.int .i64 (.lit (501)), .int .i64 (.sym 0 [.mk 1 0 0 65535])] = true := by kernel_rfl
theorem run_502 : topTrue code row31 2000 11 [.int .i64 (.lit (502)), .int .i64 (.sym 0 [.mk 1 0 0 65535])] = true := by kernel_rfl
theorem run_503 : topTrue code row31 2000 11 [.int .i64 (.lit (503)), .int .i64 (.sym 0 [.mk 1 0 0 65535])] = true := by kernel_rfl
theorem run_504 : topTrue code row31 2000 11 [.int .i64 (.lit (504)), .int .i64 (.sym 0 [.mk 1 0 0 65535])] = true := by kernel_rfl
theorem run_505 : topTrue code row31 2000 11 [.int .i64 (.lit (505)), .int .i64 (.sym 0 [.mk 1 0 0 65535])] = true := by kernel_rfl
theorem run_506 : topTrue code row31 2000 11 [.int .i64 (.lit (506)), .int .i64 (.sym 0 [.mk 1 0 0 65535])] = true := by kernel_rfl
theorem run_507 : topTrue code row31 2000 11 [.int .i64 (.lit (507)), .int .i64 (.sym 0 [.mk 1 0 0 65535])] = true := by kernel_rfl
end Go.Proofs.Ytfpllgkcflinbaa.coreOwn
