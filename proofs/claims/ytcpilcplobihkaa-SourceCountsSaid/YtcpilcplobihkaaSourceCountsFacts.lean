/- What the row of the law SourceCounts says of the program without running it: closed facts, each by itself. -/
import Derived.Test.YtcpilcplobihkaaRows
import Derived.JoinedOf
namespace Go.Proofs.Ytcpilcplobihkaa.sourceCounts
set_option maxHeartbeats 1000000000 in
theorem facts:joinedFacts Try.prog 9 Try.f9 Rows.sourceCountsSpec Rows.sourceCountsRow=true:=by
 unfold joinedFacts
 iterate 31 (refine Bool.and_eq_true_iff.mpr ⟨?_,by as_aux_lemma=>kernel_rfl⟩)
 kernel_rfl
end Go.Proofs.Ytcpilcplobihkaa.sourceCounts
