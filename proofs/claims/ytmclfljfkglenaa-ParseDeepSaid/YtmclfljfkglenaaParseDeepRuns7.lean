/- Runs of the law ParseDeep on the machine of the file YtmclfljfkglenaaNqC: at these arguments it returns true. -/
import Derived.Test.YtmclfljfkglenaaNqC
import Derived.Test.YtmclfljfkglenaaProg
import Derived.KernelRfl
import Derived.Test.YtmclfljfkglenaaParseDeepBase
import Derived.Test.YtmclfljfkglenaaParseDeepc
namespace Go.Proofs.Ytmclfljfkglenaa.parseDeep
open Nm
theorem run_14_2 : topTrue code tab0 2000 3 [.int .i64 (.lit (14)), .int .i64 (.lit (2))] = true := by kernel_rfl
theorem run_15_le : topTrue code tab0 2000 3 [.int .i64 (.lit (15)), .int .i64 (.le (-1))] = true := by kernel_rfl
theorem run_15_ge : topTrue code tab0 2000 3 [.int .i64 (.lit (15)), .int .i64 (.ge (3))] = true := by kernel_rfl
theorem run_15_0 : topTrue code tab0 2000 3 [.int .i64 (.lit (15)), .int .i64 (.lit (0))] = true := by kernel_rfl
theorem run_15_1 : topTrue code tab0 2000 3 [.int .i64 (.lit (15)), .int .i64 (.lit (1))] = true := by kernel_rfl
theorem run_15_2 : topTrue code tab0 2000 3 [.int .i64 (.lit (15)), .int .i64 (.lit (2))] = true := by kernel_rfl
theorem run_16_le : topTrue code tab0 2000 3 [.int .i64 (.lit (16)), .int .i64 (.le (-1))] = true := by kernel_rfl
theorem run_16_ge : topTrue code tab0 2000 3 [.int .i64 (.lit (16)), .int .i64 (.ge (3))] = true := by kernel_rfl
theorem run_16_0 : topTrue code tab0 2000 3 [.int .i64 (.lit (16)), .int .i64 (.lit (0))] = true := by kernel_rfl
theorem run_16_1 : topTrue code tab0 2000 3 [.int .i64 (.lit (16)), .int .i64 (.lit (1))] = true := by kernel_rfl
theorem run_16_2 : topTrue code tab0 2000 3 [.int .i64 (.lit (16)), .int .i64 (.lit (2))] = true := by kernel_rfl
theorem run_17_le : topTrue code tab0 2000 3 [.int .i64 (.lit (17)), .int .i64 (.le (-1))] = true := by kernel_rfl
end Go.Proofs.Ytmclfljfkglenaa.parseDeep
