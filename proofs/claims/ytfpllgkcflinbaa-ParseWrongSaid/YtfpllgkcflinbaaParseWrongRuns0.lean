/- Runs of the law ParseWrong on the machine of the file YtfpllgkcflinbaaNnC: at these arguments it returns true. -/
import Derived.Test.YtfpllgkcflinbaaNnC
import Derived.Test.YtfpllgkcflinbaaProg
import Derived.KernelRfl
import Derived.Test.YtfpllgkcflinbaaParseWrongBase
namespace Go.Proofs.Ytfpllgkcflinbaa.parseWrong
open Nm
theorem run_le : topTrue Try.prog tab0 2000 12 [.int .i64 (.le (-1))] = true := by kernel_rfl
theorem run_ge : topTrue Try.prog tab0 2000 12 [.int .i64 (.ge (31))] = true := by kernel_rfl
theorem run_0 : topTrue Try.prog tab0 2000 12 [.int .i64 (.lit (0))] = true := by kernel_rfl
theorem run_1 : topTrue Try.prog tab0 2000 12 [.int .i64 (.lit (1))] = true := by kernel_rfl
theorem run_2 : topTrue Try.prog tab0 2000 12 [.int .i64 (.lit (2))] = true := by kernel_rfl
theorem run_3 : topTrue Try.prog tab0 2000 12 [.int .i64 (.lit (3))] = true := by kernel_rfl
theorem run_4 : topTrue Try.prog tab0 2000 12 [.int .i64 (.lit (4))] = true := by kernel_rfl
theorem run_5 : topTrue Try.prog tab0 2000 12 [.int .i64 (.lit (5))] = true := by kernel_rfl
theorem run_6 : topTrue Try.prog tab0 2000 12 [.int .i64 (.lit (6))] = true := by kernel_rfl
theorem run_7 : topTrue Try.prog tab0 2000 12 [.int .i64 (.lit (7))] = true := by kernel_rfl
theorem run_8 : topTrue Try.prog tab0 2000 12 [.int .i64 (.lit (8))] = true := by kernel_rfl
theorem run_9 : topTrue Try.prog tab0 2000 12 [.int .i64 (.lit (9))] = true := by kernel_rfl
theorem run_10 : topTrue Try.prog tab0 2000 12 [.int .i64 (.lit (10))] = true := by kernel_rfl
theorem run_11 : topTrue Try.prog tab0 2000 12 [.int .i64 (.lit (11))] = true := by kernel_rfl
theorem run_12 : topTrue Try.prog tab0 2000 12 [.int .i64 (.lit (12))] = true := by kernel_rfl
theorem run_13 : topTrue Try.prog tab0 2000 12 [.int .i64 (.lit (13))] = true := by kernel_rfl
theorem run_14 : topTrue Try.prog tab0 2000 12 [.int .i64 (.lit (14))] = true := by kernel_rfl
theorem run_15 : topTrue Try.prog tab0 2000 12 [.int .i64 (.lit (15))] = true := by kernel_rfl
theorem run_16 : topTrue Try.prog tab0 2000 12 [.int .i64 (.lit (16))] = true := by kernel_rfl
theorem run_17 : topTrue Try.prog tab0 2000 12 [.int .i64 (.lit (17))] = true := by kernel_rfl
theorem run_18 : topTrue Try.prog tab0 2000 12 [.int .i64 (.lit (18))] = true := by kernel_rfl
theorem run_19 : topTrue Try.prog tab0 2000 12 [.int .i64 (.lit (19))] = true := by kernel_rfl
theorem run_20 : topTrue Try.prog tab0 2000 12 [.int .i64 (.lit (20))] = true := by kernel_rfl
theorem run_21 : topTrue Try.prog tab0 2000 12 [.int .i64 (.lit (21))] = true := by kernel_rfl
theorem run_22 : topTrue Try.prog tab0 2000 12 [.int .i64 (.lit (22))] = true := by kernel_rfl
theorem run_23 : topTrue Try.prog tab0 2000 12 [.int .i64 (.lit (23))] = true := by kernel_rfl
theorem run_24 : topTrue Try.prog tab0 2000 12 [.int .i64 (.lit (24))] = true := by kernel_rfl
theorem run_25 : topTrue Try.prog tab0 2000 12 [.int .i64 (.lit (25))] = true := by kernel_rfl
theorem run_26 : topTrue Try.prog tab0 2000 12 [.int .i64 (.lit (26))] = true := by kernel_rfl
theorem run_27 : topTrue Try.prog tab0 2000 12 [.int .i64 (.lit (27))] = true := by kernel_rfl
theorem run_28 : topTrue Try.prog tab0 2000 12 [.int .i64 (.lit (28))] = true := by kernel_rfl
theorem run_29 : topTrue Try.prog tab0 2000 12 [.int .i64 (.lit (29))] = true := by kernel_rfl
theorem run_30 : topTrue Try.prog tab0 2000 12 [.int .i64 (.lit (30))] = true := by kernel_rfl
end Go.Proofs.Ytfpllgkcflinbaa.parseWrong
