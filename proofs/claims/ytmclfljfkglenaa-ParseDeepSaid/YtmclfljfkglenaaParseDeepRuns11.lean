/- Runs of the law ParseDeep on the machine of the file YtmclfljfkglenaaNqC: at these arguments it returns true. -/
import Derived.Test.YtmclfljfkglenaaNqC
import Derived.Test.YtmclfljfkglenaaProg
import Derived.KernelRfl
import Derived.Test.YtmclfljfkglenaaParseDeepBase
import Derived.Test.YtmclfljfkglenaaParseDeepc
namespace Go.Proofs.Ytmclfljfkglenaa.parseDeep
open Nm
theorem run_24_0 : topTrue code tab0 2000 3 [.int .i64 (.lit (24)), .int .i64 (.lit (0))] = true := by kernel_rfl
theorem run_24_1 : topTrue code tab0 2000 3 [.int .i64 (.lit (24)), .int .i64 (.lit (1))] = true := by kernel_rfl
theorem run_24_2 : topTrue code tab0 2000 3 [.int .i64 (.lit (24)), .int .i64 (.lit (2))] = true := by kernel_rfl
theorem run_25_le : topTrue code tab0 2000 3 [.int .i64 (.lit (25)), .int .i64 (.le (-1))] = true := by kernel_rfl
theorem run_25_ge : topTrue code tab0 2000 3 [.int .i64 (.lit (25)), .int .i64 (.ge (3))] = true := by kernel_rfl
theorem run_25_0 : topTrue code tab0 2000 3 [.int .i64 (.lit (25)), .int .i64 (.lit (0))] = true := by kernel_rfl
theorem run_25_1 : topTrue code tab0 2000 3 [.int .i64 (.lit (25)), .int .i64 (.lit (1))] = true := by kernel_rfl
theorem run_25_2 : topTrue code tab0 2000 3 [.int .i64 (.lit (25)), .int .i64 (.lit (2))] = true := by kernel_rfl
theorem run_26_le : topTrue code tab0 2000 3 [.int .i64 (.lit (26)), .int .i64 (.le (-1))] = true := by kernel_rfl
theorem run_26_ge : topTrue code tab0 2000 3 [.int .i64 (.lit (26)), .int .i64 (.ge (3))] = true := by kernel_rfl
theorem run_26_0 : topTrue code tab0 2000 3 [.int .i64 (.lit (26)), .int .i64 (.lit (0))] = true := by kernel_rfl
theorem run_26_1 : topTrue code tab0 2000 3 [.int .i64 (.lit (26)), .int .i64 (.lit (1))] = true := by kernel_rfl
end Go.Proofs.Ytmclfljfkglenaa.parseDeep
