/- Runs of the law ParseDeep on the machine of the file YtmclfljfkglenaaNqC: at these arguments it returns true. -/
import Derived.Test.YtmclfljfkglenaaNqC
import Derived.Test.YtmclfljfkglenaaProg
import Derived.KernelRfl
import Derived.Test.YtmclfljfkglenaaParseDeepBase
import Derived.Test.YtmclfljfkglenaaParseDeepc
namespace Go.Proofs.Ytmclfljfkglenaa.parseDeep
open Nm
theorem run_17_ge : topTrue code tab0 2000 3 [.int .i64 (.lit (17)), .int .i64 (.ge (3))] = true := by kernel_rfl
theorem run_17_0 : topTrue code tab0 2000 3 [.int .i64 (.lit (17)), .int .i64 (.lit (0))] = true := by kernel_rfl
theorem run_17_1 : topTrue code tab0 2000 3 [.int .i64 (.lit (17)), .int .i64 (.lit (1))] = true := by kernel_rfl
theorem run_17_2 : topTrue code tab0 2000 3 [.int .i64 (.lit (17)), .int .i64 (.lit (2))] = true := by kernel_rfl
theorem run_18_le : topTrue code tab0 2000 3 [.int .i64 (.lit (18)), .int .i64 (.le (-1))] = true := by kernel_rfl
theorem run_18_ge : topTrue code tab0 2000 3 [.int .i64 (.lit (18)), .int .i64 (.ge (3))] = true := by kernel_rfl
theorem run_18_0 : topTrue code tab0 2000 3 [.int .i64 (.lit (18)), .int .i64 (.lit (0))] = true := by kernel_rfl
theorem run_18_1 : topTrue code tab0 2000 3 [.int .i64 (.lit (18)), .int .i64 (.lit (1))] = true := by kernel_rfl
theorem run_18_2 : topTrue code tab0 2000 3 [.int .i64 (.lit (18)), .int .i64 (.lit (2))] = true := by kernel_rfl
theorem run_19_le : topTrue code tab0 2000 3 [.int .i64 (.lit (19)), .int .i64 (.le (-1))] = true := by kernel_rfl
theorem run_19_ge : topTrue code tab0 2000 3 [.int .i64 (.lit (19)), .int .i64 (.ge (3))] = true := by kernel_rfl
theorem run_19_0 : topTrue code tab0 2000 3 [.int .i64 (.lit (19)), .int .i64 (.lit (0))] = true := by kernel_rfl
end Go.Proofs.Ytmclfljfkglenaa.parseDeep
