/- What the row of the law CheckSizes says of the program without running it: closed facts, each by itself. -/
import Derived.Test.YtpgjmiieecdjhaaRows
import Derived.JoinedOf
namespace Go.Proofs.Ytpgjmiieecdjhaa.checkSizes
set_option maxHeartbeats 1000000000 in
theorem facts : joinedFacts Try.prog 8 Try.f8 Rows.checkSizesSpec Rows.checkSizesRow = true := by
  unfold joinedFacts
  iterate 31 (refine Bool.and_eq_true_iff.mpr ⟨?_, by as_aux_lemma => kernel_rfl⟩)
  kernel_rfl
end Go.Proofs.Ytpgjmiieecdjhaa.checkSizes
