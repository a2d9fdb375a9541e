/- Runs of the law ParseDeep on the machine of the file YtmclfljfkglenaaNqC: at these arguments it returns true. -/
import Derived.Test.YtmclfljfkglenaaNqC
import Derived.Test.YtmclfljfkglenaaProg
import Derived.KernelRfl
import Derived.Test.YtmclfljfkglenaaParseDeepBase
import Derived.Test.YtmclfljfkglenaaParseDeepc
namespace Go.Proofs.Ytmclfljfkglenaa.parseDeep
open Nm
theorem run_5_ge : topTrue code tab0 2000 3 [.int .i64 (.lit (5)), .int .i64 (.ge (3))] = true := by kernel_rfl
theorem run_5_0 : topTrue code tab0 2000 3 [.int .i64 (.lit (5)), .int .i64 (.lit (0))] = true := by kernel_rfl
theorem run_5_1 : topTrue code tab0 2000 3 [.int .i64 (.lit (5)), .int .i64 (.lit (1))] = true := by kernel_rfl
theorem run_5_2 : topTrue code tab0 2000 3 [.int .i64 (.lit (5)), .int .i64 (.lit (2))] = true := by kernel_rfl
theorem run_6_le : topTrue code tab0 2000 3 [.int .i64 (.lit (6)), .int .i64 (.le (-1))] = true := by kernel_rfl
theorem run_6_ge : topTrue code tab0 2000 3 [.int .i64 (.lit (6)), .int .i64 (.ge (3))] = true := by kernel_rfl
theorem run_6_0 : topTrue code tab0 2000 3 [.int .i64 (.lit (6)), .int .i64 (.lit (0))] = true := by kernel_rfl
theorem run_6_1 : topTrue code tab0 2000 3 [.int .i64 (.lit (6)), .int .i64 (.lit (1))] = true := by kernel_rfl
theorem run_6_2 : topTrue code tab0 2000 3 [.int .i64 (.lit (6)), .int .i64 (.lit (2))] = true := by kernel_rfl
theorem run_7_le : topTrue code tab0 2000 3 [.int .i64 (.lit (7)), .int .i64 (.le (-1))] = true := by kernel_rfl
theorem run_7_ge : topTrue code tab0 2000 3 [.int .i64 (.lit (7)), .int .i64 (.ge (3))] = true := by kernel_rfl
theorem run_7_0 : topTrue code tab0 2000 3 [.int .i64 (.lit (7)), .int .i64 (.lit (0))] = true := by kernel_rfl
end Go.Proofs.Ytmclfljfkglenaa.parseDeep
