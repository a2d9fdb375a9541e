/- Runs of the law ParseDeep on the machine of the file YtmclfljfkglenaaNqC: at these arguments it returns true. -/
import Derived.Test.YtmclfljfkglenaaNqC
import Derived.Test.YtmclfljfkglenaaProg
import Derived.KernelRfl
import Derived.Test.YtmclfljfkglenaaParseDeepBase
import Derived.Test.YtmclfljfkglenaaParseDeepc
namespace Go.Proofs.Ytmclfljfkglenaa.parseDeep
open Nm
theorem run_19_1 : topTrue code tab0 2000 3 [.int .i64 (.lit (19)), .int .i64 (.lit (1))] = true := by kernel_rfl
theorem run_19_2 : topTrue code tab0 2000 3 [.int .i64 (.lit (19)), .int .i64 (.lit (2))] = true := by kernel_rfl
theorem run_20_le : topTrue code tab0 2000 3 [.int .i64 (.lit (20)), .int .i64 (.le (-1))] = true := by kernel_rfl
theorem run_20_ge : topTrue code tab0 2000 3 [.int .i64 (.lit (20)), .int .i64 (.ge (3))] = true := by kernel_rfl
theorem run_20_0 : topTrue code tab0 2000 3 [.int .i64 (.lit (20)), .int .i64 (.lit (0))] = true := by kernel_rfl
theorem run_20_1 : topTrue code tab0 2000 3 [.int .i64 (.lit (20)), .int .i64 (.lit (1))] = true := by kernel_rfl
theorem run_20_2 : topTrue code tab0 2000 3 [.int .i64 (.lit (20)), .int .i64 (.lit (2))] = true := by kernel_rfl
theorem run_21_le : topTrue code tab0 2000 3 [.int .i64 (.lit (21)), .int .i64 (.le (-1))] = true := by kernel_rfl
theorem run_21_ge : topTrue code tab0 2000 3 [.int .i64 (.lit (21)), .int .i64 (.ge (3))] = true := by kernel_rfl
theorem run_21_0 : topTrue code tab0 2000 3 [.int .i64 (.lit (21)), .int .i64 (.lit (0))] = true := by kernel_rfl
theorem run_21_1 : topTrue code tab0 2000 3 [.int .i64 (.lit (21)), .int .i64 (.lit (1))] = true := by kernel_rfl
theorem run_21_2 : topTrue code tab0 2000 3 [.int .i64 (.lit (21)), .int .i64 (.lit (2))] = true := by kernel_rfl
end Go.Proofs.Ytmclfljfkglenaa.parseDeep
