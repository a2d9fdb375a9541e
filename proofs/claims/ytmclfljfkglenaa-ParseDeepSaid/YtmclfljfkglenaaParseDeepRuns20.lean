/- Runs of the law ParseDeep on the machine of the file YtmclfljfkglenaaNqC: at these arguments it returns true. -/
import Derived.Test.YtmclfljfkglenaaNqC
import Derived.Test.YtmclfljfkglenaaProg
import Derived.KernelRfl
import Derived.Test.YtmclfljfkglenaaParseDeepBase
import Derived.Test.YtmclfljfkglenaaParseDeepc
namespace Go.Proofs.Ytmclfljfkglenaa.parseDeep
open Nm
theorem run_46_le : topTrue code tab0 2000 3 [.int .i64 (.lit (46)), .int .i64 (.le (-1))] = true := by kernel_rfl
theorem run_46_ge : topTrue code tab0 2000 3 [.int .i64 (.lit (46)), .int .i64 (.ge (3))] = true := by kernel_rfl
theorem run_46_0 : topTrue code tab0 2000 3 [.int .i64 (.lit (46)), .int .i64 (.lit (0))] = true := by kernel_rfl
theorem run_46_1 : topTrue code tab0 2000 3 [.int .i64 (.lit (46)), .int .i64 (.lit (1))] = true := by kernel_rfl
theorem run_46_2 : topTrue code tab0 2000 3 [.int .i64 (.lit (46)), .int .i64 (.lit (2))] = true := by kernel_rfl
theorem run_47_le : topTrue code tab0 2000 3 [.int .i64 (.lit (47)), .int .i64 (.le (-1))] = true := by kernel_rfl
theorem run_47_ge : topTrue code tab0 2000 3 [.int .i64 (.lit (47)), .int .i64 (.ge (3))] = true := by kernel_rfl
theorem run_47_0 : topTrue code tab0 2000 3 [.int .i64 (.lit (47)), .int .i64 (.lit (0))] = true := by kernel_rfl
theorem run_47_1 : topTrue code tab0 2000 3 [.int .i64 (.lit (47)), .int .i64 (.lit (1))] = true := by kernel_rfl
theorem run_47_2 : topTrue code tab0 2000 3 [.int .i64 (.lit (47)), .int .i64 (.lit (2))] = true := by kernel_rfl
theorem run_48_le : topTrue code tab0 2000 3 [.int .i64 (.lit (48)), .int .i64 (.le (-1))] = true := by kernel_rfl
theorem run_48_ge : topTrue code tab0 2000 3 [.int .i64 (.lit (48)), .int .i64 (.ge (3))] = true := by kernel_rfl
end Go.Proofs.Ytmclfljfkglenaa.parseDeep
