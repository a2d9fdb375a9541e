/- Runs of the law SourceIndexes on the machine of the file YtfpllgkcflinbaaNpC: at these arguments it returns true. -/
import Derived.Test.YtfpllgkcflinbaaNpC
import Derived.Test.YtfpllgkcflinbaaProg
import Derived.KernelRfl
import Derived.Test.YtfpllgkcflinbaaSourceIndexesBase
namespace Go.Proofs.Ytfpllgkcflinbaa.sourceIndexes
open Nm
theorem run_5_15 : topTrue Try.prog tab0 2000 7 [.int .i64 (.lit (5)), .int .u64 (.sym 15 [.mk 32 1 0 576460752303423487]), .int .u64 (.sym 0 [.mk 1 0 0 18446744073709551615])] = true := by kernel_rfl
theorem run_5_16 : topTrue Try.prog tab0 2000 7 [.int .i64 (.lit (5)), .int .u64 (.sym 16 [.mk 32 1 0 576460752303423487]), .int .u64 (.sym 0 [.mk 1 0 0 18446744073709551615])] = true := by kernel_rfl
theorem run_5_17 : topTrue Try.prog tab0 2000 7 [.int .i64 (.lit (5)), .int .u64 (.sym 17 [.mk 32 1 0 576460752303423487]), .int .u64 (.sym 0 [.mk 1 0 0 18446744073709551615])] = true := by kernel_rfl
theorem run_5_18 : topTrue Try.prog tab0 2000 7 [.int .i64 (.lit (5)), .int .u64 (.sym 18 [.mk 32 1 0 576460752303423487]), .int .u64 (.sym 0 [.mk 1 0 0 18446744073709551615])] = true := by kernel_rfl
theorem run_5_19 : topTrue Try.prog tab0 2000 7 [.int .i64 (.lit (5)), .int .u64 (.sym 19 [.mk 32 1 0 576460752303423487]), .int .u64 (.sym 0 [.mk 1 0 0 18446744073709551615])] = true := by kernel_rfl
theorem run_5_20 : topTrue Try.prog tab0 2000 7 [.int .i64 (.lit (5)), .int .u64 (.sym 20 [.mk 32 1 0 576460752303423487]), .int .u64 (.sym 0 [.mk 1 0 0 18446744073709551615])] = true := by kernel_rfl
theorem run_5_21 : topTrue Try.prog tab0 2000 7 [.int .i64 (.lit (5)), .int .u64 (.sym 21 [.mk 32 1 0 576460752303423487]), .int .u64 (.sym 0 [.mk 1 0 0 18446744073709551615])] = true := by kernel_rfl
theorem run_5_22 : topTrue Try.prog tab0 2000 7 [.int .i64 (.lit (5)), .int .u64 (.sym 22 [.mk 32 1 0 576460752303423487]), .int .u64 (.sym 0 [.mk 1 0 0 18446744073709551615])] = true := by kernel_rfl
theorem run_5_23 : topTrue Try.prog tab0 2000 7 [.int .i64 (.lit (5)), .int .u64 (.sym 23 [.mk 32 1 0 576460752303423487]), .int .u64 (.sym 0 [.mk 1 0 0 18446744073709551615])] = true := by kernel_rfl
theorem run_5_24 : topTrue Try.prog tab0 2000 7 [.int .i64 (.lit (5)), .int .u64 (.sym 24 [.mk 32 1 0 576460752303423487]), .int .u64 (.sym 0 [.mk 1 0 0 18446744073709551615])] = true := by kernel_rfl
theorem run_5_25 : topTrue Try.prog tab0 2000 7 [.int .i64 (.lit (5)), .int .u64 (.sym 25 [.mk 32 1 0 576460752303423487]), .int .u64 (.sym 0 [.mk 1 0 0 18446744073709551615])] = true := by kernel_rfl
theorem run_5_26 : topTrue Try.prog tab0 2000 7 [.int .i64 (.lit (5)), .int .u64 (.sym 26 [.mk 32 1 0 576460752303423487]), .int .u64 (.sym 0 [.mk 1 0 0 18446744073709551615])] = true := by kernel_rfl
theorem run_5_27 : topTrue Try.prog tab0 2000 7 [.int .i64 (.lit (5)), .int .u64 (.sym 27 [.mk 32 1 0 576460752303423487]), .int .u64 (.sym 0 [.mk 1 0 0 18446744073709551615])] = true := by kernel_rfl
theorem run_5_28 : topTrue Try.prog tab0 2000 7 [.int .i64 (.lit (5)), .int .u64 (.sym 28 [.mk 32 1 0 576460752303423487]), .int .u64 (.sym 0 [.mk 1 0 0 18446744073709551615])] = true := by kernel_rfl
theorem run_5_29 : topTrue Try.prog tab0 2000 7 [.int .i64 (.lit (5)), .int .u64 (.sym 29 [.mk 32 1 0 576460752303423487]), .int .u64 (.sym 0 [.mk 1 0 0 18446744073709551615])] = true := by kernel_rfl
theorem run_5_30 : topTrue Try.prog tab0 2000 7 [.int .i64 (.lit (5)), .int .u64 (.sym 30 [.mk 32 1 0 576460752303423487]), .int .u64 (.sym 0 [.mk 1 0 0 18446744073709551615])] = true := by kernel_rfl
end Go.Proofs.Ytfpllgkcflinbaa.sourceIndexes
