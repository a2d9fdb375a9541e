/- What the row of the law WholeSparing says of the program without running it: closed facts, each by itself. -/
import Derived.Test.YtmgpgdahniehnaaGreatRows
import Derived.JoinedOf
namespace Go.Proofs.YtmgpgdahniehnaaGreat.wholeSparing
set_option maxHeartbeats 1000000000 in
theorem facts : joinedFacts Tryz.prog 6 Tryz.f6 Rows.wholeSparingSpec Rows.wholeSparingRow = true := by
  unfold joinedFacts
  iterate 31 (refine Bool.and_eq_true_iff.mpr ⟨?_, by as_aux_lemma => kernel_rfl⟩)
  kernel_rfl
end Go.Proofs.YtmgpgdahniehnaaGreat.wholeSparing
