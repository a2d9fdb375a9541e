/- Runs of the law ParseDeep on the machine of the file YtmclfljfkglenaaNqC: at these arguments it returns true. -/
import Derived.Test.YtmclfljfkglenaaNqC
import Derived.Test.YtmclfljfkglenaaProg
import Derived.KernelRfl
import Derived.Test.YtmclfljfkglenaaParseDeepBase
import Derived.Test.YtmclfljfkglenaaParseDeepc
namespace Go.Proofs.Ytmclfljfkglenaa.parseDeep
open Nm
theorem run_7_1 : topTrue code tab0 2000 3 [.int .i64 (.lit (7)), .int .i64 (.lit (1))] = true := by kernel_rfl
theorem run_7_2 : topTrue code tab0 2000 3 [.int .i64 (.lit (7)), .int .i64 (.lit (2))] = true := by kernel_rfl
theorem run_8_le : topTrue code tab0 2000 3 [.int .i64 (.lit (8)), .int .i64 (.le (-1))] = true := by kernel_rfl
theorem run_8_ge : topTrue code tab0 2000 3 [.int .i64 (.lit (8)), .int .i64 (.ge (3))] = true := by kernel_rfl
theorem run_8_0 : topTrue code tab0 2000 3 [.int .i64 (.lit (8)), .int .i64 (.lit (0))] = true := by kernel_rfl
theorem run_8_1 : topTrue code tab0 2000 3 [.int .i64 (.lit (8)), .int .i64 (.lit (1))] = true := by kernel_rfl
theorem run_8_2 : topTrue code tab0 2000 3 [.int .i64 (.lit (8)), .int .i64 (.lit (2))] = true := by kernel_rfl
theorem run_9_le : topTrue code tab0 2000 3 [.int .i64 (.lit (9)), .int .i64 (.le (-1))] = true := by kernel_rfl
theorem run_9_ge : topTrue code tab0 2000 3 [.int .i64 (.lit (9)), .int .i64 (.ge (3))] = true := by kernel_rfl
theorem run_9_0 : topTrue code tab0 2000 3 [.int .i64 (.lit (9)), .int .i64 (.lit (0))] = true := by kernel_rfl
theorem run_9_1 : topTrue code tab0 2000 3 [.int .i64 (.lit (9)), .int .i64 (.lit (1))] = true := by kernel_rfl
theorem run_9_2 : topTrue code tab0 2000 3 [.int .i64 (.lit (9)), .int .i64 (.lit (2))] = true := by kernel_rfl
end Go.Proofs.Ytmclfljfkglenaa.parseDeep
