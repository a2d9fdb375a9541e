/- Runs of the law ParseDeep on the machine of the file YtmclfljfkglenaaNqC: at these arguments it returns true. -/
import Derived.Test.YtmclfljfkglenaaNqC
import Derived.Test.YtmclfljfkglenaaProg
import Derived.KernelRfl
import Derived.Test.YtmclfljfkglenaaParseDeepBase
import Derived.Test.YtmclfljfkglenaaParseDeepc
namespace Go.Proofs.Ytmclfljfkglenaa.parseDeep
open Nm
theorem run_60_0 : topTrue code tab0 2000 3 [.int .i64 (.lit (60)), .int .i64 (.lit (0))] = true := by kernel_rfl
theorem run_60_1 : topTrue code tab0 2000 3 [.int .i64 (.lit (60)), .int .i64 (.lit (1))] = true := by kernel_rfl
theorem run_60_2 : topTrue code tab0 2000 3 [.int .i64 (.lit (60)), .int .i64 (.lit (2))] = true := by kernel_rfl
end Go.Proofs.Ytmclfljfkglenaa.parseDeep
