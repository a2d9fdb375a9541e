/- Runs of the law SourceIndexes on the machine of the file YtfpllgkcflinbaaNpC: at these arguments it returns true. -/
import Derived.Test.YtfpllgkcflinbaaNpC
import Derived.Test.YtfpllgkcflinbaaProg
import Derived.KernelRfl
import Derived.Test.YtfpllgkcflinbaaSourceIndexesBase
namespace Go.Proofs.Ytfpllgkcflinbaa.sourceIndexes
open Nm
theorem run_le : topTrue Try.prog tab0 2000 7 [.int .i64 (.le (-1)), .int .u64 (.sym 0 [.mk 1 1 0 18446744073709551615]), .int .u64 (.sym 0 [.mk 1 0 0 18446744073709551615])] = true := by kernel_rfl
theorem run_ge : topTrue Try.prog tab0 2000 7 [.int .i64 (.ge 7), .int .u64 (.sym 0 [.mk 1 1 0 18446744073709551615]), .int .u64 (.sym 0 [.mk 1 0 0 18446744073709551615])] = true := by kernel_rfl
theorem run_0_0 : topTrue Try.prog tab0 2000 7 [.int .i64 (.lit (0)), .int .u64 (.sym 0 [.mk 1 1 0 18446744073709551615]), .int .u64 (.sym 0 [.mk 1 0 0 18446744073709551615])] = true := by kernel_rfl
theorem run_1_0 : topTrue Try.prog tab0 2000 7 [.int .i64 (.lit (1)), .int .u64 (.sym 0 [.mk 2 1 0 9223372036854775807]), .int .u64 (.sym 0 [.mk 1 0 0 18446744073709551615])] = true := by kernel_rfl
theorem run_1_1 : topTrue Try.prog tab0 2000 7 [.int .i64 (.lit (1)), .int .u64 (.sym 1 [.mk 2 1 0 9223372036854775807]), .int .u64 (.sym 0 [.mk 1 0 0 18446744073709551615])] = true := by kernel_rfl
theorem run_2_0 : topTrue Try.prog tab0 2000 7 [.int .i64 (.lit (2)), .int .u64 (.sym 0 [.mk 4 1 0 4611686018427387903]), .int .u64 (.sym 0 [.mk 1 0 0 18446744073709551615])] = true := by kernel_rfl
theorem run_2_1 : topTrue Try.prog tab0 2000 7 [.int .i64 (.lit (2)), .int .u64 (.sym 1 [.mk 4 1 0 4611686018427387903]), .int .u64 (.sym 0 [.mk 1 0 0 18446744073709551615])] = true := by kernel_rfl
theorem run_2_2 : topTrue Try.prog tab0 2000 7 [.int .i64 (.lit (2)), .int .u64 (.sym 2 [.mk 4 1 0 4611686018427387903]), .int .u64 (.sym 0 [.mk 1 0 0 18446744073709551615])] = true := by kernel_rfl
theorem run_2_3 : topTrue Try.prog tab0 2000 7 [.int .i64 (.lit (2)), .int .u64 (.sym 3 [.mk 4 1 0 4611686018427387903]), .int .u64 (.sym 0 [.mk 1 0 0 18446744073709551615])] = true := by kernel_rfl
theorem run_3_0 : topTrue Try.prog tab0 2000 7 [.int .i64 (.lit (3)), .int .u64 (.sym 0 [.mk 8 1 0 2305843009213693951]), .int .u64 (.sym 0 [.mk 1 0 0 18446744073709551615])] = true := by kernel_rfl
theorem run_3_1 : topTrue Try.prog tab0 2000 7 [.int .i64 (.lit (3)), .int .u64 (.sym 1 [.mk 8 1 0 2305843009213693951]), .int .u64 (.sym 0 [.mk 1 0 0 18446744073709551615])] = true := by kernel_rfl
theorem run_3_2 : topTrue Try.prog tab0 2000 7 [.int .i64 (.lit (3)), .int .u64 (.sym 2 [.mk 8 1 0 2305843009213693951]), .int .u64 (.sym 0 [.mk 1 0 0 18446744073709551615])] = true := by kernel_rfl
theorem run_3_3 : topTrue Try.prog tab0 2000 7 [.int .i64 (.lit (3)), .int .u64 (.sym 3 [.mk 8 1 0 2305843009213693951]), .int .u64 (.sym 0 [.mk 1 0 0 18446744073709551615])] = true := by kernel_rfl
theorem run_3_4 : topTrue Try.prog tab0 2000 7 [.int .i64 (.lit (3)), .int .u64 (.sym 4 [.mk 8 1 0 2305843009213693951]), .int .u64 (.sym 0 [.mk 1 0 0 18446744073709551615])] = true := by kernel_rfl
theorem run_3_5 : topTrue Try.prog tab0 2000 7 [.int .i64 (.lit (3)), .int .u64 (.sym 5 [.mk 8 1 0 2305843009213693951]), .int .u64 (.sym 0 [.mk 1 0 0 18446744073709551615])] = true := by kernel_rfl
theorem run_3_6 : topTrue Try.prog tab0 2000 7 [.int .i64 (.lit (3)), .int .u64 (.sym 6 [.mk 8 1 0 2305843009213693951]), .int .u64 (.sym 0 [.mk 1 0 0 18446744073709551615])] = true := by kernel_rfl
end Go.Proofs.Ytfpllgkcflinbaa.sourceIndexes
