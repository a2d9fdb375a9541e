/- What the row of the law SourceCas says of the program without running it: closed facts, each by itself. -/
import Derived.Test.YtfpllgkcflinbaaRows
import Derived.JoinedOf
namespace Go.Proofs.Ytfpllgkcflinbaa.sourceCas
set_option maxHeartbeats 1000000000 in
theorem facts : joinedFacts Try.prog 8 Try.f8 Rows.sourceCasSpec Rows.sourceCasRow = true := by
  unfold joinedFacts
  iterate 31 (refine Bool.and_eq_true_iff.mpr ⟨?_, by as_aux_lemma => kernel_rfl⟩)
  kernel_rfl
end Go.Proofs.Ytfpllgkcflinbaa.sourceCas
