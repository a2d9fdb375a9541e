/- The table of the code of these functions. -/
import Derived.Test.YtcpilcplobihkaaAec0
namespace FR
open Go Nm Go.Proofs
open Nm.D4 (e)
open Nm.NC (reg regD)
open Nm.C
noncomputable def code:Nat->Option NFn:=(be 113 (be 64 (be 30 (be 7 (aZ Try.prog 7 AI) (be 29 (aZ Try.prog 29 y0) (aZ Try.prog 30 xu))) (be 62 (be 61 (aZ Try.prog 61 zd) (aZ Try.prog 62 yb)) (be 63 (aZ Try.prog 63 wY) (aZ Try.prog 64 x9)))) (be 109 (be 107 (aZ Try.prog 107 wd) (be 108 (aZ Try.prog 108 ua) (aZ Try.prog 109 tn))) (be 111 (be 110 (aZ Try.prog 110 uk) (aZ Try.prog 111 sj)) (be 112 (aZ Try.prog 112 sZ) (aZ Try.prog 113 wc))))) (be 151 (be 116 (be 114 (aZ Try.prog 114 wa) (be 115 (aZ Try.prog 115 wl) (aZ Try.prog 116 wm))) (be 149 (be 148 (aZ Try.prog 148 sI) (aZ Try.prog 149 sy)) (be 150 (aZ Try.prog 150 tC) (aZ Try.prog 151 sa)))) (be 170 (be 153 (be 152 (aZ Try.prog 152 vZ) (aZ Try.prog 153 wh)) (be 154 (aZ Try.prog 154 wg) (aZ Try.prog 170 tB))) (be 172 (be 171 (aZ Try.prog 171 mD) (aZ Try.prog 172 up)) (be 177 (aZ Try.prog 177 rZ) (aZ Try.prog 178 r7))))))
theorem va:fu Try.prog code:=(aB (aB (aB (aB (aA oH) (aB (aA vQ) (aA pY))) (aB (aB (aA vY) (aA pI)) (aB (aA pD) (aA pB)))) (aB (aB (aA ud) (aB (aA m6) (aA np))) (aB (aB (aA m8) (aA mV)) (aB (aA nz) (aA rS))))) (aB (aB (aB (aA sM) (aB (aA rP) (aA s5))) (aB (aB (aA mY) (aA lP)) (aB (aA nG) (aA lQ)))) (aB (aB (aB (aA sq) (aA sT)) (aB (aA tY) (aA mA))) (aB (aB (aA gy) (aA ml)) (aB (aA mF) (aA nj))))))
end FR
