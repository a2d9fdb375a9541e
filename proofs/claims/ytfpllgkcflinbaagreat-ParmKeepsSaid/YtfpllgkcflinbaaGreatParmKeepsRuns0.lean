/- Runs of the law ParmKeeps on the machine of the file YtfpllgkcflinbaaGreatNpC: at these arguments it returns true. -/
import Derived.Test.YtfpllgkcflinbaaGreatNpC
import Derived.Test.YtfpllgkcflinbaaGreatProg
import Derived.KernelRfl
import Derived.Test.YtfpllgkcflinbaaGreatParmKeepsBase
namespace Go.Proofs.YtfpllgkcflinbaaGreat.parmKeeps
open Nm
theorem run_ale : topTrue Tryz.prog tab3 2000 4 [.int .i64 (.le (0)), .int .i64 (.ge (-9223372036854775808)), .int .i64 (.ge (-9223372036854775808)), .int .i64 (.ge (-9223372036854775808))] = true := by kernel_rfl
theorem run_age : topTrue Tryz.prog tab3 2000 4 [.int .i64 (.ge (60001)), .int .i64 (.ge (-9223372036854775808)), .int .i64 (.ge (-9223372036854775808)), .int .i64 (.ge (-9223372036854775808))] = true := by kernel_rfl
theorem run_ble : topTrue Tryz.prog tab3 2000 4 [.int .i64 (.sym 0 [.mk 1 0 1 60000]), .int .i64 (.le (0)), .int .i64 (.ge (-9223372036854775808)), .int .i64 (.ge (-9223372036854775808))] = true := by kernel_rfl
theorem run_bge : topTrue Tryz.prog tab3 2000 4 [.int .i64 (.sym 0 [.mk 1 0 1 60000]), .int .i64 (.ge (60001)), .int .i64 (.ge (-9223372036854775808)), .int .i64 (.ge (-9223372036854775808))] = true := by kernel_rfl
theorem run_nle : topTrue Tryz.prog tab3 2000 4 [.int .i64 (.sym 0 [.mk 1 0 1 60000]), .int .i64 (.sym 0 [.mk 1 1 1 60000]), .int .i64 (.le (-1)), .int .i64 (.ge (-9223372036854775808))] = true := by kernel_rfl
theorem run_nge : topTrue Tryz.prog tab3 2000 4 [.int .i64 (.sym 0 [.mk 1 0 1 60000]), .int .i64 (.sym 0 [.mk 1 1 1 60000]), .int .i64 (.ge (8)), .int .i64 (.ge (-9223372036854775808))] = true := by kernel_rfl
end Go.Proofs.YtfpllgkcflinbaaGreat.parmKeeps
