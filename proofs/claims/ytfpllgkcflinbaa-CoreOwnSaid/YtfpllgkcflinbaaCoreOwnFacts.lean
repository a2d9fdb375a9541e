/- What the row of the law CoreOwn says of the program without running it: closed facts, each by itself. -/
import Derived.Test.YtfpllgkcflinbaaRows
import Derived.JoinedOf
namespace Go.Proofs.Ytfpllgkcflinbaa.coreOwn
set_option maxHeartbeats 1000000000 in
theorem facts : joinedFacts Try.prog 11 Try.f11 Rows.coreOwnSpec Rows.coreOwnRow = true := by
  unfold joinedFacts
  iterate 31 (refine Bool.and_eq_true_iff.mpr ⟨?_, by as_aux_lemma => kernel_rfl⟩)
  kernel_rfl
end Go.Proofs.Ytfpllgkcflinbaa.coreOwn
