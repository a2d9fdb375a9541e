/- Runs of the law ParseDeep on the machine of the file YtmclfljfkglenaaNqC: at these arguments it returns true. -/
import Derived.Test.YtmclfljfkglenaaNqC
import Derived.Test.YtmclfljfkglenaaProg
import Derived.KernelRfl
import Derived.Test.YtmclfljfkglenaaParseDeepBase
import Derived.Test.YtmclfljfkglenaaParseDeepc
namespace Go.Proofs.Ytmclfljfkglenaa.parseDeep
open Nm
theorem run_38_2 : topTrue code tab0 2000 3 [.int .i64 (.lit (38)), .int .i64 (.lit (2))] = true := by kernel_rfl
theorem run_39_le : topTrue code tab0 2000 3 [.int .i64 (.lit (39)), .int .i64 (.le (-1))] = true := by kernel_rfl
theorem run_39_ge : topTrue code tab0 2000 3 [.int .i64 (.lit (39)), .int .i64 (.ge (3))] = true := by kernel_rfl
theorem run_39_0 : topTrue code tab0 2000 3 [.int .i64 (.lit (39)), .int .i64 (.lit (0))] = true := by kernel_rfl
theorem run_39_1 : topTrue code tab0 2000 3 [.int .i64 (.lit (39)), .int .i64 (.lit (1))] = true := by kernel_rfl
theorem run_39_2 : topTrue code tab0 2000 3 [.int .i64 (.lit (39)), .int .i64 (.lit (2))] = true := by kernel_rfl
theorem run_40_le : topTrue code tab0 2000 3 [.int .i64 (.lit (40)), .int .i64 (.le (-1))] = true := by kernel_rfl
theorem run_40_ge : topTrue code tab0 2000 3 [.int .i64 (.lit (40)), .int .i64 (.ge (3))] = true := by kernel_rfl
theorem run_40_0 : topTrue code tab0 2000 3 [.int .i64 (.lit (40)), .int .i64 (.lit (0))] = true := by kernel_rfl
theorem run_40_1 : topTrue code tab0 2000 3 [.int .i64 (.lit (40)), .int .i64 (.lit (1))] = true := by kernel_rfl
theorem run_40_2 : topTrue code tab0 2000 3 [.int .i64 (.lit (40)), .int .i64 (.lit (2))] = true := by kernel_rfl
theorem run_41_le : topTrue code tab0 2000 3 [.int .i64 (.lit (41)), .int .i64 (.le (-1))] = true := by kernel_rfl
end Go.Proofs.Ytmclfljfkglenaa.parseDeep
