/- What the row of the law CoreForwards says of the program without running it: closed facts, each by itself. -/
import Derived.Test.YtfpllgkcflinbaaRows
import Derived.JoinedOf
namespace Go.Proofs.Ytfpllgkcflinbaa.coreForwards
set_option maxHeartbeats 1000000000 in
theorem facts : joinedFacts Try.prog 15 Try.f15 Rows.coreForwardsSpec Rows.coreForwardsRow = true := by
  unfold joinedFacts
  iterate 31 (refine Bool.and_eq_true_iff.mpr ⟨?_, by as_aux_lemma => kernel_rfl⟩)
  kernel_rfl
end Go.Proofs.Ytfpllgkcflinbaa.coreForwards
