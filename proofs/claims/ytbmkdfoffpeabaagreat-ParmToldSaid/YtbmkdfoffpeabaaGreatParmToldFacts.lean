/- What the row of the law ParmTold says of the program without running it: closed facts, each by itself. -/
import Derived.Test.YtbmkdfoffpeabaaGreatRows
import Derived.JoinedOf
namespace Go.Proofs.YtbmkdfoffpeabaaGreat.parmTold
set_option maxHeartbeats 1000000000 in
theorem facts:joinedFacts Tryz.prog 3 Tryz.f3 Rows.parmToldSpec Rows.parmToldRow=true:=by
 unfold joinedFacts
 iterate 31 (refine Bool.and_eq_true_iff.mpr ⟨?_,by as_aux_lemma=>kernel_rfl⟩)
 kernel_rfl
end Go.Proofs.YtbmkdfoffpeabaaGreat.parmTold
