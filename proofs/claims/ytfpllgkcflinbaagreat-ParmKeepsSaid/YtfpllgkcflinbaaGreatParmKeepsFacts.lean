/- What the row of the law ParmKeeps says of the program without running it: closed facts, each by itself. -/
import Derived.Test.YtfpllgkcflinbaaGreatRows
import Derived.JoinedOf
namespace Go.Proofs.YtfpllgkcflinbaaGreat.parmKeeps
set_option maxHeartbeats 1000000000 in
theorem facts : joinedFacts Tryz.prog 4 Tryz.f4 Rows.parmKeepsSpec Rows.parmKeepsRow = true := by
  unfold joinedFacts
  iterate 31 (refine Bool.and_eq_true_iff.mpr ⟨?_, by as_aux_lemma => kernel_rfl⟩)
  kernel_rfl
end Go.Proofs.YtfpllgkcflinbaaGreat.parmKeeps
