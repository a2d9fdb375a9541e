/- Runs of the law ParseDeep on the machine of the file YtmclfljfkglenaaNqC: at these arguments it returns true. -/
import Derived.Test.YtmclfljfkglenaaNqC
import Derived.Test.YtmclfljfkglenaaProg
import Derived.KernelRfl
import Derived.Test.YtmclfljfkglenaaParseDeepBase
import Derived.Test.YtmclfljfkglenaaParseDeepc
namespace Go.Proofs.Ytmclfljfkglenaa.parseDeep
open Nm
theorem run_55_1 : topTrue code tab0 2000 3 [.int .i64 (.lit (55)), .int .i64 (.lit (1))] = true := by kernel_rfl
theorem run_55_2 : topTrue code tab0 2000 3 [.int .i64 (.lit (55)), .int .i64 (.lit (2))] = true := by kernel_rfl
theorem run_56_le : topTrue code tab0 2000 3 [.int .i64 (.lit (56)), .int .i64 (.le (-1))] = true := by kernel_rfl
theorem run_56_ge : topTrue code tab0 2000 3 [.int .i64 (.lit (56)), .int .i64 (.ge (3))] = true := by kernel_rfl
theorem run_56_0 : topTrue code tab0 2000 3 [.int .i64 (.lit (56)), .int .i64 (.lit (0))] = true := by kernel_rfl
theorem run_56_1 : topTrue code tab0 2000 3 [.int .i64 (.lit (56)), .int .i64 (.lit (1))] = true := by kernel_rfl
theorem run_56_2 : topTrue code tab0 2000 3 [.int .i64 (.lit (56)), .int .i64 (.lit (2))] = true := by kernel_rfl
theorem run_57_le : topTrue code tab0 2000 3 [.int .i64 (.lit (57)), .int .i64 (.le (-1))] = true := by kernel_rfl
theorem run_57_ge : topTrue code tab0 2000 3 [.int .i64 (.lit (57)), .int .i64 (.ge (3))] = true := by kernel_rfl
theorem run_57_0 : topTrue code tab0 2000 3 [.int .i64 (.lit (57)), .int .i64 (.lit (0))] = true := by kernel_rfl
theorem run_57_1 : topTrue code tab0 2000 3 [.int .i64 (.lit (57)), .int .i64 (.lit (1))] = true := by kernel_rfl
theorem run_57_2 : topTrue code tab0 2000 3 [.int .i64 (.lit (57)), .int .i64 (.lit (2))] = true := by kernel_rfl
end Go.Proofs.Ytmclfljfkglenaa.parseDeep
