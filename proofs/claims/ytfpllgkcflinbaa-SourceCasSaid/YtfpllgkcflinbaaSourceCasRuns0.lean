/- Runs of the law SourceCas on the machine of the file YtfpllgkcflinbaaNpC: at these arguments it returns true. -/
import Derived.Test.YtfpllgkcflinbaaNpC
import Derived.Test.YtfpllgkcflinbaaProg
import Derived.KernelRfl
import Derived.Test.YtfpllgkcflinbaaSourceCasBase
namespace Go.Proofs.Ytfpllgkcflinbaa.sourceCas
open Nm
theorem run_same : topTrue Try.prog tab0 2000 8 [.int .u64 (.sym 0 [.mk 1 100 0 18446744073709551615]), .int .u64 (.sym 0 [.mk 1 100 0 18446744073709551615]), .int .u64 (.sym 0 [.mk 1 0 0 18446744073709551615])] = true := by kernel_rfl
theorem run_apart : topTrue Try.prog tab0 2000 8 [.int .u64 (.sym 0 [.mk 1 100 0 18446744073709551615]), .int .u64 (.sym 0 [.mk 1 101 0 18446744073709551615]), .int .u64 (.sym 0 [.mk 1 0 0 18446744073709551615])] = true := by kernel_rfl
end Go.Proofs.Ytfpllgkcflinbaa.sourceCas
