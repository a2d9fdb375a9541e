/- Runs of the law SourceIndexes on the machine of the file YtfpllgkcflinbaaNpC: at these arguments it returns true. -/
import Derived.Test.YtfpllgkcflinbaaNpC
import Derived.Test.YtfpllgkcflinbaaProg
import Derived.KernelRfl
import Derived.Test.YtfpllgkcflinbaaSourceIndexesBase
namespace Go.Proofs.Ytfpllgkcflinbaa.sourceIndexes
open Nm
theorem run_4_15 : topTrue Try.prog tab0 2000 7 [.int .i64 (.lit (4)), .int .u64 (.sym 15 [.mk 16 1 0 1152921504606846975]), .int .u64 (.sym 0 [.mk 1 0 0 18446744073709551615])] = true := by kernel_rfl
theorem run_5_0 : topTrue Try.prog tab0 2000 7 [.int .i64 (.lit (5)), .int .u64 (.sym 0 [.mk 32 1 0 576460752303423487]), .int .u64 (.sym 0 [.mk 1 0 0 18446744073709551615])] = true := by kernel_rfl
theorem run_5_1 : topTrue Try.prog tab0 2000 7 [.int .i64 (.lit (5)), .int .u64 (.sym 1 [.mk 32 1 0 576460752303423487]), .int .u64 (.sym 0 [.mk 1 0 0 18446744073709551615])] = true := by kernel_rfl
theorem run_5_2 : topTrue Try.prog tab0 2000 7 [.int .i64 (.lit (5)), .int .u64 (.sym 2 [.mk 32 1 0 576460752303423487]), .int .u64 (.sym 0 [.mk 1 0 0 18446744073709551615])] = true := by kernel_rfl
theorem run_5_3 : topTrue Try.prog tab0 2000 7 [.int .i64 (.lit (5)), .int .u64 (.sym 3 [.mk 32 1 0 576460752303423487]), .int .u64 (.sym 0 [.mk 1 0 0 18446744073709551615])] = true := by kernel_rfl
theorem run_5_4 : topTrue Try.prog tab0 2000 7 [.int .i64 (.lit (5)), .int .u64 (.sym 4 [.mk 32 1 0 576460752303423487]), .int .u64 (.sym 0 [.mk 1 0 0 18446744073709551615])] = true := by kernel_rfl
theorem run_5_5 : topTrue Try.prog tab0 2000 7 [.int .i64 (.lit (5)), .int .u64 (.sym 5 [.mk 32 1 0 576460752303423487]), .int .u64 (.sym 0 [.mk 1 0 0 18446744073709551615])] = true := by kernel_rfl
theorem run_5_6 : topTrue Try.prog tab0 2000 7 [.int .i64 (.lit (5)), .int .u64 (.sym 6 [.mk 32 1 0 576460752303423487]), .int .u64 (.sym 0 [.mk 1 0 0 18446744073709551615])] = true := by kernel_rfl
theorem run_5_7 : topTrue Try.prog tab0 2000 7 [.int .i64 (.lit (5)), .int .u64 (.sym 7 [.mk 32 1 0 576460752303423487]), .int .u64 (.sym 0 [.mk 1 0 0 18446744073709551615])] = true := by kernel_rfl
theorem run_5_8 : topTrue Try.prog tab0 2000 7 [.int .i64 (.lit (5)), .int .u64 (.sym 8 [.mk 32 1 0 576460752303423487]), .int .u64 (.sym 0 [.mk 1 0 0 18446744073709551615])] = true := by kernel_rfl
theorem run_5_9 : topTrue Try.prog tab0 2000 7 [.int .i64 (.lit (5)), .int .u64 (.sym 9 [.mk 32 1 0 576460752303423487]), .int .u64 (.sym 0 [.mk 1 0 0 18446744073709551615])] = true := by kernel_rfl
theorem run_5_10 : topTrue Try.prog tab0 2000 7 [.int .i64 (.lit (5)), .int .u64 (.sym 10 [.mk 32 1 0 576460752303423487]), .int .u64 (.sym 0 [.mk 1 0 0 18446744073709551615])] = true := by kernel_rfl
theorem run_5_11 : topTrue Try.prog tab0 2000 7 [.int .i64 (.lit (5)), .int .u64 (.sym 11 [.mk 32 1 0 576460752303423487]), .int .u64 (.sym 0 [.mk 1 0 0 18446744073709551615])] = true := by kernel_rfl
theorem run_5_12 : topTrue Try.prog tab0 2000 7 [.int .i64 (.lit (5)), .int .u64 (.sym 12 [.mk 32 1 0 576460752303423487]), .int .u64 (.sym 0 [.mk 1 0 0 18446744073709551615])] = true := by kernel_rfl
theorem run_5_13 : topTrue Try.prog tab0 2000 7 [.int .i64 (.lit (5)), .int .u64 (.sym 13 [.mk 32 1 0 576460752303423487]), .int .u64 (.sym 0 [.mk 1 0 0 18446744073709551615])] = true := by kernel_rfl
theorem run_5_14 : topTrue Try.prog tab0 2000 7 [.int .i64 (.lit (5)), .int .u64 (.sym 14 [.mk 32 1 0 576460752303423487]), .int .u64 (.sym 0 [.mk 1 0 0 18446744073709551615])] = true := by kernel_rfl
end Go.Proofs.Ytfpllgkcflinbaa.sourceIndexes
