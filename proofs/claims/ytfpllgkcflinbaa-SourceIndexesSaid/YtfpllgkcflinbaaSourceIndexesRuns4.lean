/- Runs of the law SourceIndexes on the machine of the file YtfpllgkcflinbaaNpC: at these arguments it returns true. -/
import Derived.Test.YtfpllgkcflinbaaNpC
import Derived.Test.YtfpllgkcflinbaaProg
import Derived.KernelRfl
import Derived.Test.YtfpllgkcflinbaaSourceIndexesBase
namespace Go.Proofs.Ytfpllgkcflinbaa.sourceIndexes
open Nm
theorem run_5_31 : topTrue Try.prog tab0 2000 7 [.int .i64 (.lit (5)), .int .u64 (.sym 31 [.mk 32 1 0 576460752303423487]), .int .u64 (.sym 0 [.mk 1 0 0 18446744073709551615])] = true := by kernel_rfl
theorem run_6_0 : topTrue Try.prog tab0 2000 7 [.int .i64 (.lit (6)), .int .u64 (.sym 0 [.mk 64 1 0 288230376151711743]), .int .u64 (.sym 0 [.mk 1 0 0 18446744073709551615])] = true := by kernel_rfl
theorem run_6_1 : topTrue Try.prog tab0 2000 7 [.int .i64 (.lit (6)), .int .u64 (.sym 1 [.mk 64 1 0 288230376151711743]), .int .u64 (.sym 0 [.mk 1 0 0 18446744073709551615])] = true := by kernel_rfl
theorem run_6_2 : topTrue Try.prog tab0 2000 7 [.int .i64 (.lit (6)), .int .u64 (.sym 2 [.mk 64 1 0 288230376151711743]), .int .u64 (.sym 0 [.mk 1 0 0 18446744073709551615])] = true := by kernel_rfl
theorem run_6_3 : topTrue Try.prog tab0 2000 7 [.int .i64 (.lit (6)), .int .u64 (.sym 3 [.mk 64 1 0 288230376151711743]), .int .u64 (.sym 0 [.mk 1 0 0 18446744073709551615])] = true := by kernel_rfl
theorem run_6_4 : topTrue Try.prog tab0 2000 7 [.int .i64 (.lit (6)), .int .u64 (.sym 4 [.mk 64 1 0 288230376151711743]), .int .u64 (.sym 0 [.mk 1 0 0 18446744073709551615])] = true := by kernel_rfl
theorem run_6_5 : topTrue Try.prog tab0 2000 7 [.int .i64 (.lit (6)), .int .u64 (.sym 5 [.mk 64 1 0 288230376151711743]), .int .u64 (.sym 0 [.mk 1 0 0 18446744073709551615])] = true := by kernel_rfl
theorem run_6_6 : topTrue Try.prog tab0 2000 7 [.int .i64 (.lit (6)), .int .u64 (.sym 6 [.mk 64 1 0 288230376151711743]), .int .u64 (.sym 0 [.mk 1 0 0 18446744073709551615])] = true := by kernel_rfl
theorem run_6_7 : topTrue Try.prog tab0 2000 7 [.int .i64 (.lit (6)), .int .u64 (.sym 7 [.mk 64 1 0 288230376151711743]), .int .u64 (.sym 0 [.mk 1 0 0 18446744073709551615])] = true := by kernel_rfl
theorem run_6_8 : topTrue Try.prog tab0 2000 7 [.int .i64 (.lit (6)), .int .u64 (.sym 8 [.mk 64 1 0 288230376151711743]), .int .u64 (.sym 0 [.mk 1 0 0 18446744073709551615])] = true := by kernel_rfl
theorem run_6_9 : topTrue Try.prog tab0 2000 7 [.int .i64 (.lit (6)), .int .u64 (.sym 9 [.mk 64 1 0 288230376151711743]), .int .u64 (.sym 0 [.mk 1 0 0 18446744073709551615])] = true := by kernel_rfl
theorem run_6_10 : topTrue Try.prog tab0 2000 7 [.int .i64 (.lit (6)), .int .u64 (.sym 10 [.mk 64 1 0 288230376151711743]), .int .u64 (.sym 0 [.mk 1 0 0 18446744073709551615])] = true := by kernel_rfl
theorem run_6_11 : topTrue Try.prog tab0 2000 7 [.int .i64 (.lit (6)), .int .u64 (.sym 11 [.mk 64 1 0 288230376151711743]), .int .u64 (.sym 0 [.mk 1 0 0 18446744073709551615])] = true := by kernel_rfl
theorem run_6_12 : topTrue Try.prog tab0 2000 7 [.int .i64 (.lit (6)), .int .u64 (.sym 12 [.mk 64 1 0 288230376151711743]), .int .u64 (.sym 0 [.mk 1 0 0 18446744073709551615])] = true := by kernel_rfl
theorem run_6_13 : topTrue Try.prog tab0 2000 7 [.int .i64 (.lit (6)), .int .u64 (.sym 13 [.mk 64 1 0 288230376151711743]), .int .u64 (.sym 0 [.mk 1 0 0 18446744073709551615])] = true := by kernel_rfl
theorem run_6_14 : topTrue Try.prog tab0 2000 7 [.int .i64 (.lit (6)), .int .u64 (.sym 14 [.mk 64 1 0 288230376151711743]), .int .u64 (.sym 0 [.mk 1 0 0 18446744073709551615])] = true := by kernel_rfl
end Go.Proofs.Ytfpllgkcflinbaa.sourceIndexes
