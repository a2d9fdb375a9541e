/- Runs of the law ParseDeep on the machine of the file YtmclfljfkglenaaNqC: at these arguments it returns true. -/
import Derived.Test.YtmclfljfkglenaaNqC
import Derived.Test.YtmclfljfkglenaaProg
import Derived.KernelRfl
import Derived.Test.YtmclfljfkglenaaParseDeepBase
import Derived.Test.YtmclfljfkglenaaParseDeepc
namespace Go.Proofs.Ytmclfljfkglenaa.parseDeep
open Nm
theorem run_36_0 : topTrue code tab0 2000 3 [.int .i64 (.lit (36)), .int .i64 (.lit (0))] = true := by kernel_rfl
theorem run_36_1 : topTrue code tab0 2000 3 [.int .i64 (.lit (36)), .int .i64 (.lit (1))] = true := by kernel_rfl
theorem run_36_2 : topTrue code tab0 2000 3 [.int .i64 (.lit (36)), .int .i64 (.lit (2))] = true := by kernel_rfl
theorem run_37_le : topTrue code tab0 2000 3 [.int .i64 (.lit (37)), .int .i64 (.le (-1))] = true := by kernel_rfl
theorem run_37_ge : topTrue code tab0 2000 3 [.int .i64 (.lit (37)), .int .i64 (.ge (3))] = true := by kernel_rfl
theorem run_37_0 : topTrue code tab0 2000 3 [.int .i64 (.lit (37)), .int .i64 (.lit (0))] = true := by kernel_rfl
theorem run_37_1 : topTrue code tab0 2000 3 [.int .i64 (.lit (37)), .int .i64 (.lit (1))] = true := by kernel_rfl
theorem run_37_2 : topTrue code tab0 2000 3 [.int .i64 (.lit (37)), .int .i64 (.lit (2))] = true := by kernel_rfl
theorem run_38_le : topTrue code tab0 2000 3 [.int .i64 (.lit (38)), .int .i64 (.le (-1))] = true := by kernel_rfl
theorem run_38_ge : topTrue code tab0 2000 3 [.int .i64 (.lit (38)), .int .i64 (.ge (3))] = true := by kernel_rfl
theorem run_38_0 : topTrue code tab0 2000 3 [.int .i64 (.lit (38)), .int .i64 (.lit (0))] = true := by kernel_rfl
theorem run_38_1 : topTrue code tab0 2000 3 [.int .i64 (.lit (38)), .int .i64 (.lit (1))] = true := by kernel_rfl
end Go.Proofs.Ytmclfljfkglenaa.parseDeep
