/- What the row of the law LowerFresh says of the program without running it: closed facts, each by itself. -/
import Derived.Test.YtcpilcplobihkaaRows
import Derived.JoinedOf
namespace Go.Proofs.Ytcpilcplobihkaa.lowerFresh
set_option maxHeartbeats 1000000000 in
theorem facts:joinedFacts Try.prog 6 Try.f6 Rows.lowerFreshSpec Rows.lowerFreshRow=true:=by
 unfold joinedFacts
 iterate 31 (refine Bool.and_eq_true_iff.mpr ⟨?_,by as_aux_lemma=>kernel_rfl⟩)
 kernel_rfl
end Go.Proofs.Ytcpilcplobihkaa.lowerFresh
