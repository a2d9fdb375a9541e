/- Runs of the law ParseDeep on the machine of the file YtmclfljfkglenaaNqC: at these arguments it returns true. -/
import Derived.Test.YtmclfljfkglenaaNqC
import Derived.Test.YtmclfljfkglenaaProg
import Derived.KernelRfl
import Derived.Test.YtmclfljfkglenaaParseDeepBase
import Derived.Test.YtmclfljfkglenaaParseDeepc
namespace Go.Proofs.Ytmclfljfkglenaa.parseDeep
open Nm
theorem run_50_2 : topTrue code tab0 2000 3 [.int .i64 (.lit (50)), .int .i64 (.lit (2))] = true := by kernel_rfl
theorem run_51_le : topTrue code tab0 2000 3 [.int .i64 (.lit (51)), .int .i64 (.le (-1))] = true := by kernel_rfl
theorem run_51_ge : topTrue code tab0 2000 3 [.int .i64 (.lit (51)), .int .i64 (.ge (3))] = true := by kernel_rfl
theorem run_51_0 : topTrue code tab0 2000 3 [.int .i64 (.lit (51)), .int .i64 (.lit (0))] = true := by kernel_rfl
theorem run_51_1 : topTrue code tab0 2000 3 [.int .i64 (.lit (51)), .int .i64 (.lit (1))] = true := by kernel_rfl
theorem run_51_2 : topTrue code tab0 2000 3 [.int .i64 (.lit (51)), .int .i64 (.lit (2))] = true := by kernel_rfl
theorem run_52_le : topTrue code tab0 2000 3 [.int .i64 (.lit (52)), .int .i64 (.le (-1))] = true := by kernel_rfl
theorem run_52_ge : topTrue code tab0 2000 3 [.int .i64 (.lit (52)), .int .i64 (.ge (3))] = true := by kernel_rfl
theorem run_52_0 : topTrue code tab0 2000 3 [.int .i64 (.lit (52)), .int .i64 (.lit (0))] = true := by kernel_rfl
theorem run_52_1 : topTrue code tab0 2000 3 [.int .i64 (.lit (52)), .int .i64 (.lit (1))] = true := by kernel_rfl
theorem run_52_2 : topTrue code tab0 2000 3 [.int .i64 (.lit (52)), .int .i64 (.lit (2))] = true := by kernel_rfl
theorem run_53_le : topTrue code tab0 2000 3 [.int .i64 (.lit (53)), .int .i64 (.le (-1))] = true := by kernel_rfl
end Go.Proofs.Ytmclfljfkglenaa.parseDeep
