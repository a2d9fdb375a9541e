/- What the row of the law AssignEnough says of the program without running it: closed facts, each by itself. -/
import Derived.Test.YtcpilcplobihkaaRows
import Derived.JoinedOf
namespace Go.Proofs.Ytcpilcplobihkaa.assignEnough
set_option maxHeartbeats 1000000000 in
theorem facts:joinedFacts Try.prog 7 Try.f7 Rows.assignEnoughSpec Rows.assignEnoughRow=true:=by
 unfold joinedFacts
 iterate 31 (refine Bool.and_eq_true_iff.mpr ⟨?_,by as_aux_lemma=>kernel_rfl⟩)
 kernel_rfl
end Go.Proofs.Ytcpilcplobihkaa.assignEnough
