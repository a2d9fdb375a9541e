/- Runs of the law SourceIndexes on the machine of the file YtfpllgkcflinbaaNpC: at these arguments it returns true. -/
import Derived.Test.YtfpllgkcflinbaaNpC
import Derived.Test.YtfpllgkcflinbaaProg
import Derived.KernelRfl
import Derived.Test.YtfpllgkcflinbaaSourceIndexesBase
namespace Go.Proofs.Ytfpllgkcflinbaa.sourceIndexes
open Nm
theorem run_6_47 : topTrue Try.prog tab0 2000 7 [.int .i64 (.lit (6)), .int .u64 (.sym 47 [.mk 64 1 0 288230376151711743]), .int .u64 (.sym 0 [.mk 1 0 0 18446744073709551615])] = true := by kernel_rfl
theorem run_6_48 : topTrue Try.prog tab0 2000 7 [.int .i64 (.lit (6)), .int .u64 (.sym 48 [.mk 64 1 0 288230376151711743]), .int .u64 (.sym 0 [.mk 1 0 0 18446744073709551615])] = true := by kernel_rfl
theorem run_6_49 : topTrue Try.prog tab0 2000 7 [.int .i64 (.lit (6)), .int .u64 (.sym 49 [.mk 64 1 0 288230376151711743]), .int .u64 (.sym 0 [.mk 1 0 0 18446744073709551615])] = true := by kernel_rfl
theorem run_6_50 : topTrue Try.prog tab0 2000 7 [.int .i64 (.lit (6)), .int .u64 (.sym 50 [.mk 64 1 0 288230376151711743]), .int .u64 (.sym 0 [.mk 1 0 0 18446744073709551615])] = true := by kernel_rfl
theorem run_6_51 : topTrue Try.prog tab0 2000 7 [.int .i64 (.lit (6)), .int .u64 (.sym 51 [.mk 64 1 0 288230376151711743]), .int .u64 (.sym 0 [.mk 1 0 0 18446744073709551615])] = true := by kernel_rfl
theorem run_6_52 : topTrue Try.prog tab0 2000 7 [.int .i64 (.lit (6)), .int .u64 (.sym 52 [.mk 64 1 0 288230376151711743]), .int .u64 (.sym 0 [.mk 1 0 0 18446744073709551615])] = true := by kernel_rfl
theorem run_6_53 : topTrue Try.prog tab0 2000 7 [.int .i64 (.lit (6)), .int .u64 (.sym 53 [.mk 64 1 0 288230376151711743]), .int .u64 (.sym 0 [.mk 1 0 0 18446744073709551615])] = true := by kernel_rfl
theorem run_6_54 : topTrue Try.prog tab0 2000 7 [.int .i64 (.lit (6)), .int .u64 (.sym 54 [.mk 64 1 0 288230376151711743]), .int .u64 (.sym 0 [.mk 1 0 0 18446744073709551615])] = true := by kernel_rfl
theorem run_6_55 : topTrue Try.prog tab0 2000 7 [.int .i64 (.lit (6)), .int .u64 (.sym 55 [.mk 64 1 0 288230376151711743]), .int .u64 (.sym 0 [.mk 1 0 0 18446744073709551615])] = true := by kernel_rfl
theorem run_6_56 : topTrue Try.prog tab0 2000 7 [.int .i64 (.lit (6)), .int .u64 (.sym 56 [.mk 64 1 0 288230376151711743]), .int .u64 (.sym 0 [.mk 1 0 0 18446744073709551615])] = true := by kernel_rfl
theorem run_6_57 : topTrue Try.prog tab0 2000 7 [.int .i64 (.lit (6)), .int .u64 (.sym 57 [.mk 64 1 0 288230376151711743]), .int .u64 (.sym 0 [.mk 1 0 0 18446744073709551615])] = true := by kernel_rfl
theorem run_6_58 : topTrue Try.prog tab0 2000 7 [.int .i64 (.lit (6)), .int .u64 (.sym 58 [.mk 64 1 0 288230376151711743]), .int .u64 (.sym 0 [.mk 1 0 0 18446744073709551615])] = true := by kernel_rfl
theorem run_6_59 : topTrue Try.prog tab0 2000 7 [.int .i64 (.lit (6)), .int .u64 (.sym 59 [.mk 64 1 0 288230376151711743]), .int .u64 (.sym 0 [.mk 1 0 0 18446744073709551615])] = true := by kernel_rfl
theorem run_6_60 : topTrue Try.prog tab0 2000 7 [.int .i64 (.lit (6)), .int .u64 (.sym 60 [.mk 64 1 0 288230376151711743]), .int .u64 (.sym 0 [.mk 1 0 0 18446744073709551615])] = true := by kernel_rfl
theorem run_6_61 : topTrue Try.prog tab0 2000 7 [.int .i64 (.lit (6)), .int .u64 (.sym 61 [.mk 64 1 0 288230376151711743]), .int .u64 (.sym 0 [.mk 1 0 0 18446744073709551615])] = true := by kernel_rfl
theorem run_6_62 : topTrue Try.prog tab0 2000 7 [.int .i64 (.lit (6)), .int .u64 (.sym 62 [.mk 64 1 0 288230376151711743]), .int .u64 (.sym 0 [.mk 1 0 0 18446744073709551615])] = true := by kernel_rfl
end Go.Proofs.Ytfpllgkcflinbaa.sourceIndexes
