/- Runs of the law ParseDeep on the machine of the file YtmclfljfkglenaaNqC: at these arguments it returns true. -/
import Derived.Test.YtmclfljfkglenaaNqC
import Derived.Test.YtmclfljfkglenaaProg
import Derived.KernelRfl
import Derived.Test.YtmclfljfkglenaaParseDeepBase
import Derived.Test.YtmclfljfkglenaaParseDeepc
namespace Go.Proofs.Ytmclfljfkglenaa.parseDeep
open Nm
theorem run_41_ge : topTrue code tab0 2000 3 [.int .i64 (.lit (41)), .int .i64 (.ge (3))] = true := by kernel_rfl
theorem run_41_0 : topTrue code tab0 2000 3 [.int .i64 (.lit (41)), .int .i64 (.lit (0))] = true := by kernel_rfl
theorem run_41_1 : topTrue code tab0 2000 3 [.int .i64 (.lit (41)), .int .i64 (.lit (1))] = true := by kernel_rfl
theorem run_41_2 : topTrue code tab0 2000 3 [.int .i64 (.lit (41)), .int .i64 (.lit (2))] = true := by kernel_rfl
theorem run_42_le : topTrue code tab0 2000 3 [.int .i64 (.lit (42)), .int .i64 (.le (-1))] = true := by kernel_rfl
theorem run_42_ge : topTrue code tab0 2000 3 [.int .i64 (.lit (42)), .int .i64 (.ge (3))] = true := by kernel_rfl
theorem run_42_0 : topTrue code tab0 2000 3 [.int .i64 (.lit (42)), .int .i64 (.lit (0))] = true := by kernel_rfl
theorem run_42_1 : topTrue code tab0 2000 3 [.int .i64 (.lit (42)), .int .i64 (.lit (1))] = true := by kernel_rfl
theorem run_42_2 : topTrue code tab0 2000 3 [.int .i64 (.lit (42)), .int .i64 (.lit (2))] = true := by kernel_rfl
theorem run_43_le : topTrue code tab0 2000 3 [.int .i64 (.lit (43)), .int .i64 (.le (-1))] = true := by kernel_rfl
theorem run_43_ge : topTrue code tab0 2000 3 [.int .i64 (.lit (43)), .int .i64 (.ge (3))] = true := by kernel_rfl
theorem run_43_0 : topTrue code tab0 2000 3 [.int .i64 (.lit (43)), .int .i64 (.lit (0))] = true := by kernel_rfl
end Go.Proofs.Ytmclfljfkglenaa.parseDeep
