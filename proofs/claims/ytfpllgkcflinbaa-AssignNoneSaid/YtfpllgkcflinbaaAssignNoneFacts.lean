/- What the row of the law AssignNone says of the program without running it: closed facts, each by itself. -/
import Derived.Test.YtfpllgkcflinbaaRows
import Derived.JoinedOf
namespace Go.Proofs.Ytfpllgkcflinbaa.assignNone
set_option maxHeartbeats 1000000000 in
theorem facts : joinedFacts Try.prog 6 Try.f6 Rows.assignNoneSpec Rows.assignNoneRow = true := by
  unfold joinedFacts
  iterate 31 (refine Bool.and_eq_true_iff.mpr ⟨?_, by as_aux_lemma => kernel_rfl⟩)
  kernel_rfl
end Go.Proofs.Ytfpllgkcflinbaa.assignNone
