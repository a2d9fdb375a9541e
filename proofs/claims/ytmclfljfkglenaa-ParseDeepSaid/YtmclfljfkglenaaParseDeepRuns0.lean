/- Runs of the law ParseDeep on the machine of the file YtmclfljfkglenaaNqC: at these arguments it returns true. -/
import Derived.Test.YtmclfljfkglenaaNqC
import Derived.Test.YtmclfljfkglenaaProg
import Derived.KernelRfl
import Derived.Test.YtmclfljfkglenaaParseDeepBase
import Derived.Test.YtmclfljfkglenaaParseDeepc
namespace Go.Proofs.Ytmclfljfkglenaa.parseDeep
open Nm
theorem run_le_le : topTrue code tab0 2000 3 [.int .i64 (.le (-1)), .int .i64 (.le (-1))] = true := by kernel_rfl
theorem run_le_ge : topTrue code tab0 2000 3 [.int .i64 (.le (-1)), .int .i64 (.ge (3))] = true := by kernel_rfl
theorem run_le_0 : topTrue code tab0 2000 3 [.int .i64 (.le (-1)), .int .i64 (.lit (0))] = true := by kernel_rfl
theorem run_le_1 : topTrue code tab0 2000 3 [.int .i64 (.le (-1)), .int .i64 (.lit (1))] = true := by kernel_rfl
theorem run_le_2 : topTrue code tab0 2000 3 [.int .i64 (.le (-1)), .int .i64 (.lit (2))] = true := by kernel_rfl
theorem run_ge_le : topTrue code tab0 2000 3 [.int .i64 (.ge (61)), .int .i64 (.le (-1))] = true := by kernel_rfl
theorem run_ge_ge : topTrue code tab0 2000 3 [.int .i64 (.ge (61)), .int .i64 (.ge (3))] = true := by kernel_rfl
theorem run_ge_0 : topTrue code tab0 2000 3 [.int .i64 (.ge (61)), .int .i64 (.lit (0))] = true := by kernel_rfl
theorem run_ge_1 : topTrue code tab0 2000 3 [.int .i64 (.ge (61)), .int .i64 (.lit (1))] = true := by kernel_rfl
theorem run_ge_2 : topTrue code tab0 2000 3 [.int .i64 (.ge (61)), .int .i64 (.lit (2))] = true := by kernel_rfl
theorem run_0_le : topTrue code tab0 2000 3 [.int .i64 (.lit (0)), .int .i64 (.le (-1))] = true := by kernel_rfl
theorem run_0_ge : topTrue code tab0 2000 3 [.int .i64 (.lit (0)), .int .i64 (.ge (3))] = true := by kernel_rfl
end Go.Proofs.Ytmclfljfkglenaa.parseDeep
