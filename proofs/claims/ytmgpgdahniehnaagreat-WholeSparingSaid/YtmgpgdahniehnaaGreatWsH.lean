/- WholeSparing on the given program: part 8. -/
import Derived.Test.YtmgpgdahniehnaaGreatWsG
open Go Nm Go.Proofs
namespace FR
set_option maxHeartbeats 0 in
theorem Xr:∀n<8,∀el,ix ((cT (0+n)).fl.el [el]) 8=some (wT (0+n) el):=by decide+kernel
set_option maxHeartbeats 0 in
theorem U8:∀n<4,∀el,ix ((cT (8+n)).fl.el [el]) 8=some (wT (8+n) el):=by decide+kernel
set_option maxHeartbeats 0 in
theorem QA:∀n<3,∀el,ix ((cT (12+n)).fl.el [el]) 8=some (wT (12+n) el):=by decide+kernel
set_option maxHeartbeats 0 in
theorem QN:∀n<2,∀el,ix ((cT (15+n)).fl.el [el]) 8=some (wT (15+n) el):=by decide+kernel
end FR
