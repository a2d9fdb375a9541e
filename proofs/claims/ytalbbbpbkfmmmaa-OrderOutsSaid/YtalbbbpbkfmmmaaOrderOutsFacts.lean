/- What the row of the law OrderOuts says of the program without running it: closed facts, each by itself. -/
import Derived.Test.YtalbbbpbkfmmmaaRows
import Derived.JoinedOf
namespace Go.Proofs.Ytalbbbpbkfmmmaa.orderOuts
set_option maxHeartbeats 1000000000 in
theorem facts : joinedFacts Try.prog 5 Try.f5 Rows.orderOutsSpec Rows.orderOutsRow = true := by
  unfold joinedFacts
  iterate 31 (refine Bool.and_eq_true_iff.mpr ⟨?_, by as_aux_lemma => kernel_rfl⟩)
  kernel_rfl
end Go.Proofs.Ytalbbbpbkfmmmaa.orderOuts
