/- WholeSparing on the given program: part 9. -/
import Derived.Test.YtmgpgdahniehnaaGreatWsH
open Go Nm Go.Proofs
namespace FR
set_option maxHeartbeats 0 in
theorem Q9:∀n<1,∀el,ix ((cT (17+n)).fl.el [el]) 8=some (wT (17+n) el):=by decide+kernel
set_option maxHeartbeats 0 in
theorem Tv:∀n<1,∀el,ix ((cT (18+n)).fl.el [el]) 8=some (wT (18+n) el):=by decide+kernel
set_option maxHeartbeats 0 in
theorem SL:∀n<1,∀el,ix ((cT (19+n)).fl.el [el]) 8=some (wT (19+n) el):=by decide+kernel
set_option maxHeartbeats 0 in
theorem Sh:∀n<1,∀el,ix ((cT (20+n)).fl.el [el]) 8=some (wT (20+n) el):=by decide+kernel
end FR
