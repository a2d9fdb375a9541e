/- Runs of the law ParseDeep on the machine of the file YtmclfljfkglenaaNqC: at these arguments it returns true. -/
import Derived.Test.YtmclfljfkglenaaNqC
import Derived.Test.YtmclfljfkglenaaProg
import Derived.KernelRfl
import Derived.Test.YtmclfljfkglenaaParseDeepBase
import Derived.Test.YtmclfljfkglenaaParseDeepc
namespace Go.Proofs.Ytmclfljfkglenaa.parseDeep
open Nm
theorem run_43_1 : topTrue code tab0 2000 3 [.int .i64 (.lit (43)), .int .i64 (.lit (1))] = true := by kernel_rfl
theorem run_43_2 : topTrue code tab0 2000 3 [.int .i64 (.lit (43)), .int .i64 (.lit (2))] = true := by kernel_rfl
theorem run_44_le : topTrue code tab0 2000 3 [.int .i64 (.lit (44)), .int .i64 (.le (-1))] = true := by kernel_rfl
theorem run_44_ge : topTrue code tab0 2000 3 [.int .i64 (.lit (44)), .int .i64 (.ge (3))] = true := by kernel_rfl
theorem run_44_0 : topTrue code tab0 2000 3 [.int .i64 (.lit (44)), .int .i64 (.lit (0))] = true := by kernel_rfl
theorem run_44_1 : topTrue code tab0 2000 3 [.int .i64 (.lit (44)), .int .i64 (.lit (1))] = true := by kernel_rfl
theorem run_44_2 : topTrue code tab0 2000 3 [.int .i64 (.lit (44)), .int .i64 (.lit (2))] = true := by kernel_rfl
theorem run_45_le : topTrue code tab0 2000 3 [.int .i64 (.lit (45)), .int .i64 (.le (-1))] = true := by kernel_rfl
theorem run_45_ge : topTrue code tab0 2000 3 [.int .i64 (.lit (45)), .int .i64 (.ge (3))] = true := by kernel_rfl
theorem run_45_0 : topTrue code tab0 2000 3 [.int .i64 (.lit (45)), .int .i64 (.lit (0))] = true := by kernel_rfl
theorem run_45_1 : topTrue code tab0 2000 3 [.int .i64 (.lit (45)), .int .i64 (.lit (1))] = true := by kernel_rfl
theorem run_45_2 : topTrue code tab0 2000 3 [.int .i64 (.lit (45)), .int .i64 (.lit (2))] = true := by kernel_rfl
end Go.Proofs.Ytmclfljfkglenaa.parseDeep
