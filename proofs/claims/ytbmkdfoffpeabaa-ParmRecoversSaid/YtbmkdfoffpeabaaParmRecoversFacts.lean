/- What the row of the law ParmRecovers says of the program without running it: closed facts, each by itself. -/
import Derived.Test.YtbmkdfoffpeabaaRows
import Derived.JoinedOf
namespace Go.Proofs.Ytbmkdfoffpeabaa.parmRecovers
set_option maxHeartbeats 1000000000 in
theorem facts:joinedFacts Try.prog 4 Try.f4 Rows.parmRecoversSpec Rows.parmRecoversRow=true:=by
 unfold joinedFacts
 iterate 31 (refine Bool.and_eq_true_iff.mpr ⟨?_,by as_aux_lemma=>kernel_rfl⟩)
 kernel_rfl
end Go.Proofs.Ytbmkdfoffpeabaa.parmRecovers
