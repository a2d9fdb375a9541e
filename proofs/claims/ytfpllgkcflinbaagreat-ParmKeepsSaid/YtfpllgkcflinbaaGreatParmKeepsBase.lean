/- Calls whose answers the runs of the law ParmKeeps take as they were worked out once. -/
import Derived.Test.YtfpllgkcflinbaaGreatNpC
import Derived.Test.YtfpllgkcflinbaaGreatProg
import Derived.KernelRfl
namespace Go.Proofs.YtfpllgkcflinbaaGreat.parmKeeps
open Nm
theorem kept_alive : topIs Tryz.prog noS 2000 14 [] (.bool true) = true := by kernel_rfl
noncomputable def tab0 : Nat → List NV → Option NV := addS 14 [] (.bool true) noS
theorem kept_dec3560964096 : topIs Tryz.prog tab0 2000 58 [.int .u32 (.lit (3560964096))] (.tup [.agg [.int .i64 (.lit (22)), .int .i64 (.lit (0)), .int .i64 (.lit (0)), .int .i64 (.lit (0)), .int .i64 (.lit (0)), .int .i64 (.lit (0)), .int .i64 (.lit (0))], .int .i64 (.lit 0)]) = true := by kernel_rfl
noncomputable def tab1 : Nat → List NV → Option NV := addS 58 [.int .u32 (.lit (3560964096))] (.tup [.agg [.int .i64 (.lit (22)), .int .i64 (.lit (0)), .int .i64 (.lit (0)), .int .i64 (.lit (0)), .int .i64 (.lit (0)), .int .i64 (.lit (0)), .int .i64 (.lit (0))], .int .i64 (.lit 0)]) tab0
theorem kept_dec4177526819 : topIs Tryz.prog tab1 2000 58 [.int .u32 (.lit (4177526819))] (.tup [.agg [.int .i64 (.lit (13)), .int .i64 (.lit (3)), .int .i64 (.lit (1)), .int .i64 (.lit (0)), .int .i64 (.lit (0)), .int .i64 (.lit (0)), .int .i64 (.lit (0))], .int .i64 (.lit 0)]) = true := by kernel_rfl
noncomputable def tab2 : Nat → List NV → Option NV := addS 58 [.int .u32 (.lit (4177526819))] (.tup [.agg [.int .i64 (.lit (13)), .int .i64 (.lit (3)), .int .i64 (.lit (1)), .int .i64 (.lit (0)), .int .i64 (.lit (0)), .int .i64 (.lit (0)), .int .i64 (.lit (0))], .int .i64 (.lit 0)]) tab1
theorem kept_dec4177526852 : topIs Tryz.prog tab2 2000 58 [.int .u32 (.lit (4177526852))] (.tup [.agg [.int .i64 (.lit (13)), .int .i64 (.lit (4)), .int .i64 (.lit (2)), .int .i64 (.lit (0)), .int .i64 (.lit (0)), .int .i64 (.lit (0)), .int .i64 (.lit (0))], .int .i64 (.lit 0)]) = true := by kernel_rfl
noncomputable def tab3 : Nat → List NV → Option NV := addS 58 [.int .u32 (.lit (4177526852))] (.tup [.agg [.int .i64 (.lit (13)), .int .i64 (.lit (4)), .int .i64 (.lit (2)), .int .i64 (.lit (0)), .int .i64 (.lit (0)), .int .i64 (.lit (0)), .int .i64 (.lit (0))], .int .i64 (.lit 0)]) tab2
end Go.Proofs.YtfpllgkcflinbaaGreat.parmKeeps
