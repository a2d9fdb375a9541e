/- Runs of the law SourceIndexes on the machine of the file YtfpllgkcflinbaaNpC: at these arguments it returns true. -/
import Derived.Test.YtfpllgkcflinbaaNpC
import Derived.Test.YtfpllgkcflinbaaProg
import Derived.KernelRfl
import Derived.Test.YtfpllgkcflinbaaSourceIndexesBase
namespace Go.Proofs.Ytfpllgkcflinbaa.sourceIndexes
open Nm
theorem run_6_63 : topTrue Try.prog tab0 2000 7 [.int .i64 (.lit (6)), .int .u64 (.sym 63 [.mk 64 1 0 288230376151711743]), .int .u64 (.sym 0 [.mk 1 0 0 18446744073709551615])] = true := by kernel_rfl
end Go.Proofs.Ytfpllgkcflinbaa.sourceIndexes
