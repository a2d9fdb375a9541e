/- Runs of the law ParseDeep on the machine of the file YtmclfljfkglenaaNqC: at these arguments it returns true. -/
import Derived.Test.YtmclfljfkglenaaNqC
import Derived.Test.YtmclfljfkglenaaProg
import Derived.KernelRfl
import Derived.Test.YtmclfljfkglenaaParseDeepBase
import Derived.Test.YtmclfljfkglenaaParseDeepc
namespace Go.Proofs.Ytmclfljfkglenaa.parseDeep
open Nm
theorem run_31_1 : topTrue code tab0 2000 3 [.int .i64 (.lit (31)), .int .i64 (.lit (1))] = true := by kernel_rfl
theorem run_31_2 : topTrue code tab0 2000 3 [.int .i64 (.lit (31)), .int .i64 (.lit (2))] = true := by kernel_rfl
theorem run_32_le : topTrue code tab0 2000 3 [.int .i64 (.lit (32)), .int .i64 (.le (-1))] = true := by kernel_rfl
theorem run_32_ge : topTrue code tab0 2000 3 [.int .i64 (.lit (32)), .int .i64 (.ge (3))] = true := by kernel_rfl
theorem run_32_0 : topTrue code tab0 2000 3 [.int .i64 (.lit (32)), .int .i64 (.lit (0))] = true := by kernel_rfl
theorem run_32_1 : topTrue code tab0 2000 3 [.int .i64 (.lit (32)), .int .i64 (.lit (1))] = true := by kernel_rfl
theorem run_32_2 : topTrue code tab0 2000 3 [.int .i64 (.lit (32)), .int .i64 (.lit (2))] = true := by kernel_rfl
theorem run_33_le : topTrue code tab0 2000 3 [.int .i64 (.lit (33)), .int .i64 (.le (-1))] = true := by kernel_rfl
theorem run_33_ge : topTrue code tab0 2000 3 [.int .i64 (.lit (33)), .int .i64 (.ge (3))] = true := by kernel_rfl
theorem run_33_0 : topTrue code tab0 2000 3 [.int .i64 (.lit (33)), .int .i64 (.lit (0))] = true := by kernel_rfl
theorem run_33_1 : topTrue code tab0 2000 3 [.int .i64 (.lit (33)), .int .i64 (.lit (1))] = true := by kernel_rfl
theorem run_33_2 : topTrue code tab0 2000 3 [.int .i64 (.lit (33)), .int .i64 (.lit (2))] = true := by kernel_rfl
end Go.Proofs.Ytmclfljfkglenaa.parseDeep
