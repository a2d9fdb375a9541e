/- The table of the code of these functions. -/
import Derived.Test.YtbmeohlbiljdpaaLcc0
namespace LV
open Go Nm Go.Proofs
noncomputable def code : Nat → Option NFn := (nodeC 10 (nodeC 6 (nodeC 4 (nodeC 3 (leafC Try.prog 3 nf3) (leafC Try.prog 4 nf4)) (nodeC 5 (leafC Try.prog 5 nf5) (leafC Try.prog 6 nf6))) (nodeC 8 (nodeC 7 (leafC Try.prog 7 nf7) (leafC Try.prog 8 nf8)) (nodeC 9 (leafC Try.prog 9 nf9) (leafC Try.prog 10 nf10)))) (nodeC 14 (nodeC 12 (nodeC 11 (leafC Try.prog 11 nf11) (leafC Try.prog 12 nf12)) (nodeC 13 (leafC Try.prog 13 nf13) (leafC Try.prog 14 nf14))) (nodeC 16 (nodeC 15 (leafC Try.prog 15 nf15) (leafC Try.prog 16 nf16)) (nodeC 17 (leafC Try.prog 17 nf17) (leafC Try.prog 18 nf18)))))
theorem code_is : CodeIs Try.prog code := (nodeC_is (nodeC_is (nodeC_is (nodeC_is (leafC_is nf3_eq) (leafC_is nf4_eq)) (nodeC_is (leafC_is nf5_eq) (leafC_is nf6_eq))) (nodeC_is (nodeC_is (leafC_is nf7_eq) (leafC_is nf8_eq)) (nodeC_is (leafC_is nf9_eq) (leafC_is nf10_eq)))) (nodeC_is (nodeC_is (nodeC_is (leafC_is nf11_eq) (leafC_is nf12_eq)) (nodeC_is (leafC_is nf13_eq) (leafC_is nf14_eq))) (nodeC_is (nodeC_is (leafC_is nf15_eq) (leafC_is nf16_eq)) (nodeC_is (leafC_is nf17_eq) (leafC_is nf18_eq)))))
end LV
