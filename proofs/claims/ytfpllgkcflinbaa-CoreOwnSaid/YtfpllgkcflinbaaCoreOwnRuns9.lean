/- Runs of the law CoreOwn on the machine of the file YtfpllgkcflinbaaNqC: at these arguments it returns true. -/
import Derived.Test.YtfpllgkcflinbaaNqC
import Derived.Test.YtfpllgkcflinbaaProg
import Derived.KernelRfl
import Derived.Test.YtfpllgkcflinbaaCoreOwnBase
import Derived.Test.YtfpllgkcflinbaaCoreOwnc
namespace Go.Proofs.Ytfpllgkcflinbaa.coreOwn
open Nm
theorem run_284 : topTrue code row31 2000 11 [.int .i64 (.lit (284)), .int .i64 (.sym 0 [.mk 1 0 0 65535])] = true := by kernel_rfl
theorem run_285 : topTrue code row31 2000 11 [.int .i64 (.lit (285)), .int .i64 (.sym 0 [.mk 1 0 0 65535])] = true := by kernel_rfl
theorem run_286 : topTrue code row31 2000 11 [.int .i64 (.lit (286)), .int .i64 (.sym 0 [.mk 1 0 0 65535])] = true := by kernel_rfl
theorem run_287 : topTrue code row31 2000 11 [.int .i64 (.lit (287)), .int .i64 (.sym 0 [.mk 1 0 0 65535])] = true := by kernel_rfl
theorem run_288 : topTrue code row31 2000 11 [.int .i64 (.lit (288)), .int .i64 (.sym 0 [.mk 1 0 0 65535])] = true := by kernel_rfl
theorem run_289 : topTrue code row31 2000 11 [.int .i64 (.lit (289)), .int .i64 (.sym 0 [.mk 1 0 0 65535])] = true := by kernel_rfl
theorem run_290 : topTrue code row31 2000 11 [.int .i64 (.lit (290)), .int .i64 (.sym 0 [.mk 1 0 0 65535])] = true := by kernel_rfl
theorem run_291 : topTrue code row31 2000 11 [.int .i64 (.lit (291)), .int .i64 (.sym 0 [.mk 1 0 0 65535])] = true := by kernel_rfl
theorem run_292 : topTrue code row31 2000 11 [.int .i64 (.lit (292)), .int .i64 (.sym 0 [.mk 1 0 0 65535])] = true := by kernel_rfl
theorem run_293 : topTrue code row31 2000 11 [.int .i64 (.lit (293)), .int .i64 (.sym 0 [.mk 1 0 0 65535])] = true := by kernel_rfl
theorem run_294 : topTrue code row31 2000 11 [.int .i64 (.lit (294)), .int .i64 (.sym 0 [.mk 1 0 0 65535])] = true := by kernel_rfl
theorem run_295 : topTrue code row31 2000 11 [.int .i64 (.lit (295)), .int .i64 (.sym 0 [.mk 1 0 0 65535])] = true := by kernel_rfl
theorem run_296 : topTrue code row31 2000 11 [.int .i64 (.lit (296)), .int .i64 (.sym 0 [.mk 1 0 0 65535])] = true := by kernel_rfl
theorem run_297 : topTrue code row31 2000 11 [.int .i64 (.lit (297)), .int .i64 (.sym 0 [.mk 1 0 0 65535])] = true := by kernel_rfl
theorem run_298 : topTrue code row31 2000 11 [.int .i64 (.lit (298)), .int .i64 (.sym 0 [.mk 1 0 0 65535])] = true := by kernel_rfl
theorem run_299 : topTrue code row31 2000 11 [.int .i64 (.lit (299)), .int .i64 (.sym 0 [.mk 1 0 0 65535])] = true := by kernel_rfl
theorem run_300 : topTrue code row31 2000 11 [.int .i64 (.lit (300)), .int .i64 (.sym 0 [.mk 1 0 0 65535])] = true := by kernel_rfl
theorem run_301 : topTrue code row31 2000 11 [.int .i64 (.lit (301)), .int .i64 (.sym 0 [.mk 1 0 0 65535])] = true := by kernel_rfl
theorem run_302 : topTrue code row31 2000 11 [.int .i64 (.lit (302)), .int .i64 (.sym 0 [.mk 1 0 0 65535])] = true := by kernel_rfl
theorem run_303 : topTrue code row31 2000 11 [.int .i64 (.lit (303)), .int .i64 (.sym 0 [.mk 1 0 0 65535])] = true := by kernel_rfl
theorem run_304 : topTrue code row31 2000 11 [.int .i64 (.lit (304)), .int .i64 (.sym 0 [.mk 1 0 0 65535])] = true := by kernel_rfl
theorem run_305 : topTrue code row31 2000 11 [.int .i64 (.lit (305)), .int .i64 (.sym 0 [.mk 1 0 0 65535])] = true := by kernel_rfl
theorem run_306 : topTrue code row31 2000 11 [.int .i64 (.lit (306)), .int .i64 (.sym 0 [.mk 1 0 0 65535])] = true := by kernel_rfl
theorem run_307 : topTrue code row31 2000 11 [.int .i64 (.lit (307)), .int .i64 (.sym 0 [.mk 1 0 0 65535])] = true := by kernel_rfl
theorem run_308 : topTrue code row31 2000 11 [.int .i64 (.lit (308)), .int .i64 (.sym 0 [.mk 1 0 0 65535])] = true := by kernel_rfl
theorem run_309 : topTrue code row31 2000 11 [.int .i64 (.lit (309)), .int .i64 (.sym 0 [.mk 1 0 0 65535])] = true := by kernel_rfl
theorem run_310 : topTrue code row31 2000 11 [.int .i64 (.lit (310)), .int .i64 (.sym 0 [.mk 1 0 0 65535])] = true := by kernel_rfl
theorem run_311 : topTrue code row31 2000 11 [.int .i64 (.lit (311)), .int .i64 (.sym 0 [.mk 1 0 0 65535])] = true := by kernel_rfl
theorem run_312 : topTrue code row31 2000 11 [.int .i64 (.lit (312)), .int .i64 (.sym 0 [.mk 1 0 0 65535])] = true := by kernel_rfl
theorem run_313 : topTrue code row31 2000 11 [.int .i64 (.lit (313)), .int .i64 (.sym 0 [.mk 1 0 0 65535])] = true := by kernel_rfl
theorem run_314 : topTrue code row31 2000 11 [.int .i64 (.lit (314)), .int .i64 (.sym 0 [.mk 1 0 0 65535])] = true := by kernel_rfl
theorem run_315 : topTrue code row31 2000 11 [.int .i64 (.lit (315)), .int .i64 (.sym 0 [.mk 1 0 0 65535])] = true := by kernel_rfl
end Go.Proofs.Ytfpllgkcflinbaa.coreOwn
