/- What the row of the law JudgeOrders says of the program without running it: closed facts, each by itself. -/
import Derived.Test.YtcpilcplobihkaaRows
import Derived.JoinedOf
namespace Go.Proofs.Ytcpilcplobihkaa.judgeOrders
set_option maxHeartbeats 1000000000 in
theorem facts:joinedFacts Try.prog 10 Try.f10 Rows.judgeOrdersSpec Rows.judgeOrdersRow=true:=by
 unfold joinedFacts
 iterate 31 (refine Bool.and_eq_true_iff.mpr ⟨?_,by as_aux_lemma=>kernel_rfl⟩)
 kernel_rfl
end Go.Proofs.Ytcpilcplobihkaa.judgeOrders
