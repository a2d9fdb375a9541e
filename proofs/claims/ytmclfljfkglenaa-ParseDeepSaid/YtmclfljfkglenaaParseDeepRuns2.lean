/- Runs of the law ParseDeep on the machine of the file YtmclfljfkglenaaNqC: at these arguments it returns true. -/
import Derived.Test.YtmclfljfkglenaaNqC
import Derived.Test.YtmclfljfkglenaaProg
import Derived.KernelRfl
import Derived.Test.YtmclfljfkglenaaParseDeepBase
import Derived.Test.YtmclfljfkglenaaParseDeepc
namespace Go.Proofs.Ytmclfljfkglenaa.parseDeep
open Nm
theorem run_2_2 : topTrue code tab0 2000 3 [.int .i64 (.lit (2)), .int .i64 (.lit (2))] = true := by kernel_rfl
theorem run_3_le : topTrue code tab0 2000 3 [.int .i64 (.lit (3)), .int .i64 (.le (-1))] = true := by kernel_rfl
theorem run_3_ge : topTrue code tab0 2000 3 [.int .i64 (.lit (3)), .int .i64 (.ge (3))] = true := by kernel_rfl
theorem run_3_0 : topTrue code tab0 2000 3 [.int .i64 (.lit (3)), .int .i64 (.lit (0))] = true := by kernel_rfl
theorem run_3_1 : topTrue code tab0 2000 3 [.int .i64 (.lit (3)), .int .i64 (.lit (1))] = true := by kernel_rfl
theorem run_3_2 : topTrue code tab0 2000 3 [.int .i64 (.lit (3)), .int .i64 (.lit (2))] = true := by kernel_rfl
theorem run_4_le : topTrue code tab0 2000 3 [.int .i64 (.lit (4)), .int .i64 (.le (-1))] = true := by kernel_rfl
theorem run_4_ge : topTrue code tab0 2000 3 [.int .i64 (.lit (4)), .int .i64 (.ge (3))] = true := by kernel_rfl
theorem run_4_0 : topTrue code tab0 2000 3 [.int .i64 (.lit (4)), .int .i64 (.lit (0))] = true := by kernel_rfl
theorem run_4_1 : topTrue code tab0 2000 3 [.int .i64 (.lit (4)), .int .i64 (.lit (1))] = true := by kernel_rfl
theorem run_4_2 : topTrue code tab0 2000 3 [.int .i64 (.lit (4)), .int .i64 (.lit (2))] = true := by kernel_rfl
theorem run_5_le : topTrue code tab0 2000 3 [.int .i64 (.lit (5)), .int .i64 (.le (-1))] = true := by kernel_rfl
end Go.Proofs.Ytmclfljfkglenaa.parseDeep
