/- Runs of the law ParseDeep on the machine of the file YtmclfljfkglenaaNqC: at these arguments it returns true. -/
import Derived.Test.YtmclfljfkglenaaNqC
import Derived.Test.YtmclfljfkglenaaProg
import Derived.KernelRfl
import Derived.Test.YtmclfljfkglenaaParseDeepBase
import Derived.Test.YtmclfljfkglenaaParseDeepc
namespace Go.Proofs.Ytmclfljfkglenaa.parseDeep
open Nm
theorem run_22_le : topTrue code tab0 2000 3 [.int .i64 (.lit (22)), .int .i64 (.le (-1))] = true := by kernel_rfl
theorem run_22_ge : topTrue code tab0 2000 3 [.int .i64 (.lit (22)), .int .i64 (.ge (3))] = true := by kernel_rfl
theorem run_22_0 : topTrue code tab0 2000 3 [.int .i64 (.lit (22)), .int .i64 (.lit (0))] = true := by kernel_rfl
theorem run_22_1 : topTrue code tab0 2000 3 [.int .i64 (.lit (22)), .int .i64 (.lit (1))] = true := by kernel_rfl
theorem run_22_2 : topTrue code tab0 2000 3 [.int .i64 (.lit (22)), .int .i64 (.lit (2))] = true := by kernel_rfl
theorem run_23_le : topTrue code tab0 2000 3 [.int .i64 (.lit (23)), .int .i64 (.le (-1))] = true := by kernel_rfl
theorem run_23_ge : topTrue code tab0 2000 3 [.int .i64 (.lit (23)), .int .i64 (.ge (3))] = true := by kernel_rfl
theorem run_23_0 : topTrue code tab0 2000 3 [.int .i64 (.lit (23)), .int .i64 (.lit (0))] = true := by kernel_rfl
theorem run_23_1 : topTrue code tab0 2000 3 [.int .i64 (.lit (23)), .int .i64 (.lit (1))] = true := by kernel_rfl
theorem run_23_2 : topTrue code tab0 2000 3 [.int .i64 (.lit (23)), .int .i64 (.lit (2))] = true := by kernel_rfl
theorem run_24_le : topTrue code tab0 2000 3 [.int .i64 (.lit (24)), .int .i64 (.le (-1))] = true := by kernel_rfl
theorem run_24_ge : topTrue code tab0 2000 3 [.int .i64 (.lit (24)), .int .i64 (.ge (3))] = true := by kernel_rfl
end Go.Proofs.Ytmclfljfkglenaa.parseDeep
