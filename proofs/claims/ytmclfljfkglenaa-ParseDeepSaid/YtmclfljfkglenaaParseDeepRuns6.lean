/- Runs of the law ParseDeep on the machine of the file YtmclfljfkglenaaNqC: at these arguments it returns true. -/
import Derived.Test.YtmclfljfkglenaaNqC
import Derived.Test.YtmclfljfkglenaaProg
import Derived.KernelRfl
import Derived.Test.YtmclfljfkglenaaParseDeepBase
import Derived.Test.YtmclfljfkglenaaParseDeepc
namespace Go.Proofs.Ytmclfljfkglenaa.parseDeep
open Nm
theorem run_12_0 : topTrue code tab0 2000 3 [.int .i64 (.lit (12)), .int .i64 (.lit (0))] = true := by kernel_rfl
theorem run_12_1 : topTrue code tab0 2000 3 [.int .i64 (.lit (12)), .int .i64 (.lit (1))] = true := by kernel_rfl
theorem run_12_2 : topTrue code tab0 2000 3 [.int .i64 (.lit (12)), .int .i64 (.lit (2))] = true := by kernel_rfl
theorem run_13_le : topTrue code tab0 2000 3 [.int .i64 (.lit (13)), .int .i64 (.le (-1))] = true := by kernel_rfl
theorem run_13_ge : topTrue code tab0 2000 3 [.int .i64 (.lit (13)), .int .i64 (.ge (3))] = true := by kernel_rfl
theorem run_13_0 : topTrue code tab0 2000 3 [.int .i64 (.lit (13)), .int .i64 (.lit (0))] = true := by kernel_rfl
theorem run_13_1 : topTrue code tab0 2000 3 [.int .i64 (.lit (13)), .int .i64 (.lit (1))] = true := by kernel_rfl
theorem run_13_2 : topTrue code tab0 2000 3 [.int .i64 (.lit (13)), .int .i64 (.lit (2))] = true := by kernel_rfl
theorem run_14_le : topTrue code tab0 2000 3 [.int .i64 (.lit (14)), .int .i64 (.le (-1))] = true := by kernel_rfl
theorem run_14_ge : topTrue code tab0 2000 3 [.int .i64 (.lit (14)), .int .i64 (.ge (3))] = true := by kernel_rfl
theorem run_14_0 : topTrue code tab0 2000 3 [.int .i64 (.lit (14)), .int .i64 (.lit (0))] = true := by kernel_rfl
theorem run_14_1 : topTrue code tab0 2000 3 [.int .i64 (.lit (14)), .int .i64 (.lit (1))] = true := by kernel_rfl
end Go.Proofs.Ytmclfljfkglenaa.parseDeep
