/- Runs of the law ParseDeep on the machine of the file YtmclfljfkglenaaNqC: at these arguments it returns true. -/
import Derived.Test.YtmclfljfkglenaaNqC
import Derived.Test.YtmclfljfkglenaaProg
import Derived.KernelRfl
import Derived.Test.YtmclfljfkglenaaParseDeepBase
import Derived.Test.YtmclfljfkglenaaParseDeepc
namespace Go.Proofs.Ytmclfljfkglenaa.parseDeep
open Nm
theorem run_10_le : topTrue code tab0 2000 3 [.int .i64 (.lit (10)), .int .i64 (.le (-1))] = true := by kernel_rfl
theorem run_10_ge : topTrue code tab0 2000 3 [.int .i64 (.lit (10)), .int .i64 (.ge (3))] = true := by kernel_rfl
theorem run_10_0 : topTrue code tab0 2000 3 [.int .i64 (.lit (10)), .int .i64 (.lit (0))] = true := by kernel_rfl
theorem run_10_1 : topTrue code tab0 2000 3 [.int .i64 (.lit (10)), .int .i64 (.lit (1))] = true := by kernel_rfl
theorem run_10_2 : topTrue code tab0 2000 3 [.int .i64 (.lit (10)), .int .i64 (.lit (2))] = true := by kernel_rfl
theorem run_11_le : topTrue code tab0 2000 3 [.int .i64 (.lit (11)), .int .i64 (.le (-1))] = true := by kernel_rfl
theorem run_11_ge : topTrue code tab0 2000 3 [.int .i64 (.lit (11)), .int .i64 (.ge (3))] = true := by kernel_rfl
theorem run_11_0 : topTrue code tab0 2000 3 [.int .i64 (.lit (11)), .int .i64 (.lit (0))] = true := by kernel_rfl
theorem run_11_1 : topTrue code tab0 2000 3 [.int .i64 (.lit (11)), .int .i64 (.lit (1))] = true := by kernel_rfl
theorem run_11_2 : topTrue code tab0 2000 3 [.int .i64 (.lit (11)), .int .i64 (.lit (2))] = true := by kernel_rfl
theorem run_12_le : topTrue code tab0 2000 3 [.int .i64 (.lit (12)), .int .i64 (.le (-1))] = true := by kernel_rfl
theorem run_12_ge : topTrue code tab0 2000 3 [.int .i64 (.lit (12)), .int .i64 (.ge (3))] = true := by kernel_rfl
end Go.Proofs.Ytmclfljfkglenaa.parseDeep
