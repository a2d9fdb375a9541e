/- What the row of the law LowerMeans says of the program without running it: closed facts, each by itself. -/
import Derived.Test.YtcpilcplobihkaaGreatRows
import Derived.JoinedOf
namespace Go.Proofs.YtcpilcplobihkaaGreat.lowerMeans
set_option maxHeartbeats 1000000000 in
theorem facts:joinedFacts Tryz.prog 3 Tryz.f3 Rows.lowerMeansSpec Rows.lowerMeansRow=true:=by
 unfold joinedFacts
 iterate 31 (refine Bool.and_eq_true_iff.mpr ⟨?_,by as_aux_lemma=>kernel_rfl⟩)
 kernel_rfl
end Go.Proofs.YtcpilcplobihkaaGreat.lowerMeans
