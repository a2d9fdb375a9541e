/- Runs of the law ParseDeep on the machine of the file YtmclfljfkglenaaNqC: at these arguments it returns true. -/
import Derived.Test.YtmclfljfkglenaaNqC
import Derived.Test.YtmclfljfkglenaaProg
import Derived.KernelRfl
import Derived.Test.YtmclfljfkglenaaParseDeepBase
import Derived.Test.YtmclfljfkglenaaParseDeepc
namespace Go.Proofs.Ytmclfljfkglenaa.parseDeep
open Nm
theorem run_26_2 : topTrue code tab0 2000 3 [.int .i64 (.lit (26)), .int .i64 (.lit (2))] = true := by kernel_rfl
theorem run_27_le : topTrue code tab0 2000 3 [.int .i64 (.lit (27)), .int .i64 (.le (-1))] = true := by kernel_rfl
theorem run_27_ge : topTrue code tab0 2000 3 [.int .i64 (.lit (27)), .int .i64 (.ge (3))] = true := by kernel_rfl
theorem run_27_0 : topTrue code tab0 2000 3 [.int .i64 (.lit (27)), .int .i64 (.lit (0))] = true := by kernel_rfl
theorem run_27_1 : topTrue code tab0 2000 3 [.int .i64 (.lit (27)), .int .i64 (.lit (1))] = true := by kernel_rfl
theorem run_27_2 : topTrue code tab0 2000 3 [.int .i64 (.lit (27)), .int .i64 (.lit (2))] = true := by kernel_rfl
theorem run_28_le : topTrue code tab0 2000 3 [.int .i64 (.lit (28)), .int .i64 (.le (-1))] = true := by kernel_rfl
theorem run_28_ge : topTrue code tab0 2000 3 [.int .i64 (.lit (28)), .int .i64 (.ge (3))] = true := by kernel_rfl
theorem run_28_0 : topTrue code tab0 2000 3 [.int .i64 (.lit (28)), .int .i64 (.lit (0))] = true := by kernel_rfl
theorem run_28_1 : topTrue code tab0 2000 3 [.int .i64 (.lit (28)), .int .i64 (.lit (1))] = true := by kernel_rfl
theorem run_28_2 : topTrue code tab0 2000 3 [.int .i64 (.lit (28)), .int .i64 (.lit (2))] = true := by kernel_rfl
theorem run_29_le : topTrue code tab0 2000 3 [.int .i64 (.lit (29)), .int .i64 (.le (-1))] = true := by kernel_rfl
end Go.Proofs.Ytmclfljfkglenaa.parseDeep
