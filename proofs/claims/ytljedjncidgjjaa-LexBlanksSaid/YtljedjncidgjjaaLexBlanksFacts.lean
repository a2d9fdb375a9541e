/- What the row of the law LexBlanks says of the program without running it: closed facts, each by itself. -/
import Derived.Test.YtljedjncidgjjaaRows
import Derived.JoinedOf
namespace Go.Proofs.Ytljedjncidgjjaa.lexBlanks
set_option maxHeartbeats 1000000000 in
theorem facts : joinedFacts Try.prog 7 Try.f7 Rows.lexBlanksSpec Rows.lexBlanksRow = true := by
  unfold joinedFacts
  iterate 31 (refine Bool.and_eq_true_iff.mpr ⟨?_, by as_aux_lemma => kernel_rfl⟩)
  kernel_rfl
end Go.Proofs.Ytljedjncidgjjaa.lexBlanks
