/- What the row of the law CoreRelease says of the program without running it: closed facts, each by itself. -/
import Derived.Test.YtfpllgkcflinbaaRows
import Derived.JoinedOf
namespace Go.Proofs.Ytfpllgkcflinbaa.coreRelease
set_option maxHeartbeats 1000000000 in
theorem facts : joinedFacts Try.prog 14 Try.f14 Rows.coreReleaseSpec Rows.coreReleaseRow = true := by
  unfold joinedFacts
  iterate 31 (refine Bool.and_eq_true_iff.mpr ⟨?_, by as_aux_lemma => kernel_rfl⟩)
  kernel_rfl
end Go.Proofs.Ytfpllgkcflinbaa.coreRelease
