/- What the row of the law JudgeReplays says of the program without running it: closed facts, each by itself. -/
import Derived.Test.YtcpilcplobihkaaGreatRows
import Derived.JoinedOf
namespace Go.Proofs.YtcpilcplobihkaaGreat.judgeReplays
set_option maxHeartbeats 1000000000 in
theorem facts:joinedFacts Tryz.prog 5 Tryz.f5 Rows.judgeReplaysSpec Rows.judgeReplaysRow=true:=by
 unfold joinedFacts
 iterate 31 (refine Bool.and_eq_true_iff.mpr ⟨?_,by as_aux_lemma=>kernel_rfl⟩)
 kernel_rfl
end Go.Proofs.YtcpilcplobihkaaGreat.judgeReplays
