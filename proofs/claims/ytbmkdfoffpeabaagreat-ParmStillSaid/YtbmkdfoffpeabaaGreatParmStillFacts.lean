/- What the row of the law ParmStill says of the program without running it: closed facts, each by itself. -/
import Derived.Test.YtbmkdfoffpeabaaGreatRows
import Derived.JoinedOf
namespace Go.Proofs.YtbmkdfoffpeabaaGreat.parmStill
set_option maxHeartbeats 1000000000 in
theorem facts:joinedFacts Tryz.prog 4 Tryz.f4 Rows.parmStillSpec Rows.parmStillRow=true:=by
 unfold joinedFacts
 iterate 31 (refine Bool.and_eq_true_iff.mpr ⟨?_,by as_aux_lemma=>kernel_rfl⟩)
 kernel_rfl
end Go.Proofs.YtbmkdfoffpeabaaGreat.parmStill
