/- What the row of the law ParsePlaces says of the program without running it: closed facts, each by itself. -/
import Derived.Test.YtbialplfjdpkiaaRows
import Derived.JoinedOf
namespace Go.Proofs.Ytbialplfjdpkiaa.parsePlaces
set_option maxHeartbeats 1000000000 in
theorem facts:joinedFacts Try.prog 3 Try.f3 Rows.parsePlacesSpec Rows.parsePlacesRow=true:=by
 unfold joinedFacts
 iterate 31 (refine Bool.and_eq_true_iff.mpr ⟨?_,by as_aux_lemma=>kernel_rfl⟩)
 kernel_rfl
end Go.Proofs.Ytbialplfjdpkiaa.parsePlaces
