/- Runs of the law SourceIndexes on the machine of the file YtfpllgkcflinbaaNpC: at these arguments it returns true. -/
import Derived.Test.YtfpllgkcflinbaaNpC
import Derived.Test.YtfpllgkcflinbaaProg
import Derived.KernelRfl
import Derived.Test.YtfpllgkcflinbaaSourceIndexesBase
namespace Go.Proofs.Ytfpllgkcflinbaa.sourceIndexes
open Nm
theorem run_6_31 : topTrue Try.prog tab0 2000 7 [.int .i64 (.lit (6)), .int .u64 (.sym 31 [.mk 64 1 0 288230376151711743]), .int .u64 (.sym 0 [.mk 1 0 0 18446744073709551615])] = true := by kernel_rfl
theorem run_6_32 : topTrue Try.prog tab0 2000 7 [.int .i64 (.lit (6)), .int .u64 (.sym 32 [.mk 64 1 0 288230376151711743]), .int .u64 (.sym 0 [.mk 1 0 0 18446744073709551615])] = true := by kernel_rfl
theorem run_6_33 : topTrue Try.prog tab0 2000 7 [.int .i64 (.lit (6)), .int .u64 (.sym 33 [.mk 64 1 0 288230376151711743]), .int .u64 (.sym 0 [.mk 1 0 0 18446744073709551615])] = true := by kernel_rfl
theorem run_6_34 : topTrue Try.prog tab0 2000 7 [.int .i64 (.lit (6)), .int .u64 (.sym 34 [.mk 64 1 0 288230376151711743]), .int .u64 (.sym 0 [.mk 1 0 0 18446744073709551615])] = true := by kernel_rfl
theorem run_6_35 : topTrue Try.prog tab0 2000 7 [.int .i64 (.lit (6)), .int .u64 (.sym 35 [.mk 64 1 0 288230376151711743]), .int .u64 (.sym 0 [.mk 1 0 0 18446744073709551615])] = true := by kernel_rfl
theorem run_6_36 : topTrue Try.prog tab0 2000 7 [.int .i64 (.lit (6)), .int .u64 (.sym 36 [.mk 64 1 0 288230376151711743]), .int .u64 (.sym 0 [.mk 1 0 0 18446744073709551615])] = true := by kernel_rfl
theorem run_6_37 : topTrue Try.prog tab0 2000 7 [.int .i64 (.lit (6)), .int .u64 (.sym 37 [.mk 64 1 0 288230376151711743]), .int .u64 (.sym 0 [.mk 1 0 0 18446744073709551615])] = true := by kernel_rfl
theorem run_6_38 : topTrue Try.prog tab0 2000 7 [.int .i64 (.lit (6)), .int .u64 (.sym 38 [.mk 64 1 0 288230376151711743]), .int .u64 (.sym 0 [.mk 1 0 0 18446744073709551615])] = true := by kernel_rfl
theorem run_6_39 : topTrue Try.prog tab0 2000 7 [.int .i64 (.lit (6)), .int .u64 (.sym 39 [.mk 64 1 0 288230376151711743]), .int .u64 (.sym 0 [.mk 1 0 0 18446744073709551615])] = true := by kernel_rfl
theorem run_6_40 : topTrue Try.prog tab0 2000 7 [.int .i64 (.lit (6)), .int .u64 (.sym 40 [.mk 64 1 0 288230376151711743]), .int .u64 (.sym 0 [.mk 1 0 0 18446744073709551615])] = true := by kernel_rfl
theorem run_6_41 : topTrue Try.prog tab0 2000 7 [.int .i64 (.lit (6)), .int .u64 (.sym 41 [.mk 64 1 0 288230376151711743]), .int .u64 (.sym 0 [.mk 1 0 0 18446744073709551615])] = true := by kernel_rfl
theorem run_6_42 : topTrue Try.prog tab0 2000 7 [.int .i64 (.lit (6)), .int .u64 (.sym 42 [.mk 64 1 0 288230376151711743]), .int .u64 (.sym 0 [.mk 1 0 0 18446744073709551615])] = true := by kernel_rfl
theorem run_6_43 : topTrue Try.prog tab0 2000 7 [.int .i64 (.lit (6)), .int .u64 (.sym 43 [.mk 64 1 0 288230376151711743]), .int .u64 (.sym 0 [.mk 1 0 0 18446744073709551615])] = true := by kernel_rfl
theorem run_6_44 : topTrue Try.prog tab0 2000 7 [.int .i64 (.lit (6)), .int .u64 (.sym 44 [.mk 64 1 0 288230376151711743]), .int .u64 (.sym 0 [.mk 1 0 0 18446744073709551615])] = true := by kernel_rfl
theorem run_6_45 : topTrue Try.prog tab0 2000 7 [.int .i64 (.lit (6)), .int .u64 (.sym 45 [.mk 64 1 0 288230376151711743]), .int .u64 (.sym 0 [.mk 1 0 0 18446744073709551615])] = true := by kernel_rfl
theorem run_6_46 : topTrue Try.prog tab0 2000 7 [.int .i64 (.lit (6)), .int .u64 (.sym 46 [.mk 64 1 0 288230376151711743]), .int .u64 (.sym 0 [.mk 1 0 0 18446744073709551615])] = true := by kernel_rfl
end Go.Proofs.Ytfpllgkcflinbaa.sourceIndexes
