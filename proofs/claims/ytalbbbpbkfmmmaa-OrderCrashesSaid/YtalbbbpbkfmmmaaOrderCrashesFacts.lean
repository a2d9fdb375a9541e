/- What the row of the law OrderCrashes says of the program without running it: closed facts, each by itself. -/
import Derived.Test.YtalbbbpbkfmmmaaRows
import Derived.JoinedOf
namespace Go.Proofs.Ytalbbbpbkfmmmaa.orderCrashes
set_option maxHeartbeats 1000000000 in
theorem facts : joinedFacts Try.prog 3 Try.f3 Rows.orderCrashesSpec Rows.orderCrashesRow = true := by
  unfold joinedFacts
  iterate 31 (refine Bool.and_eq_true_iff.mpr ⟨?_, by as_aux_lemma => kernel_rfl⟩)
  kernel_rfl
end Go.Proofs.Ytalbbbpbkfmmmaa.orderCrashes
