/- Runs of the law ParseDeep on the machine of the file YtmclfljfkglenaaNqC: at these arguments it returns true. -/
import Derived.Test.YtmclfljfkglenaaNqC
import Derived.Test.YtmclfljfkglenaaProg
import Derived.KernelRfl
import Derived.Test.YtmclfljfkglenaaParseDeepBase
import Derived.Test.YtmclfljfkglenaaParseDeepc
namespace Go.Proofs.Ytmclfljfkglenaa.parseDeep
open Nm
theorem run_48_0 : topTrue code tab0 2000 3 [.int .i64 (.lit (48)), .int .i64 (.lit (0))] = true := by kernel_rfl
theorem run_48_1 : topTrue code tab0 2000 3 [.int .i64 (.lit (48)), .int .i64 (.lit (1))] = true := by kernel_rfl
theorem run_48_2 : topTrue code tab0 2000 3 [.int .i64 (.lit (48)), .int .i64 (.lit (2))] = true := by kernel_rfl
theorem run_49_le : topTrue code tab0 2000 3 [.int .i64 (.lit (49)), .int .i64 (.le (-1))] = true := by kernel_rfl
theorem run_49_ge : topTrue code tab0 2000 3 [.int .i64 (.lit (49)), .int .i64 (.ge (3))] = true := by kernel_rfl
theorem run_49_0 : topTrue code tab0 2000 3 [.int .i64 (.lit (49)), .int .i64 (.lit (0))] = true := by kernel_rfl
theorem run_49_1 : topTrue code tab0 2000 3 [.int .i64 (.lit (49)), .int .i64 (.lit (1))] = true := by kernel_rfl
theorem run_49_2 : topTrue code tab0 2000 3 [.int .i64 (.lit (49)), .int .i64 (.lit (2))] = true := by kernel_rfl
theorem run_50_le : topTrue code tab0 2000 3 [.int .i64 (.lit (50)), .int .i64 (.le (-1))] = true := by kernel_rfl
theorem run_50_ge : topTrue code tab0 2000 3 [.int .i64 (.lit (50)), .int .i64 (.ge (3))] = true := by kernel_rfl
theorem run_50_0 : topTrue code tab0 2000 3 [.int .i64 (.lit (50)), .int .i64 (.lit (0))] = true := by kernel_rfl
theorem run_50_1 : topTrue code tab0 2000 3 [.int .i64 (.lit (50)), .int .i64 (.lit (1))] = true := by kernel_rfl
end Go.Proofs.Ytmclfljfkglenaa.parseDeep
