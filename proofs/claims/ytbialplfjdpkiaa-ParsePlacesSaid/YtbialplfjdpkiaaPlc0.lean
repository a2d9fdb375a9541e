/- The code of some functions as the nice machine has it, worked out once. -/
import Derived.Test.YtbialplfjdpkiaaPlmD
import Derived.Test.YtbialplfjdpkiaaProg
import Derived.KernelRfl
namespace Nm.C
open Nm Nm.D4
instance:Coe D4 NOpd:=⟨.tmp⟩
abbrev cd:=NC.cond
abbrev sk:=NC.skip
abbrev rt:=NC.ret
abbrev bk:=NC.block
abbrev ex:=NC.exit
abbrev z0:NV:=.int .i64 (.lit 0)
abbrev z1:NV:=.int .u64 (.lit 0)
abbrev z2:NV:=.int .u8 (.lit 0)
abbrev z3:NV:=.str []
abbrev z4:NV:=.nils
abbrev A0:=e.a.a
abbrev A1:=e.f
abbrev A2:=e.a.f
abbrev A3:=e.a.c
abbrev A4:=e.a.b
abbrev A5:=e.a
abbrev A6:=e.b.b
abbrev A7:=e.b.a
abbrev A8:=e.b
abbrev A9:=e.b.f
abbrev Aa:=e.b.c
abbrev Ab:=e.c
abbrev Ac:=e.c.a
abbrev Ad:=e.c.b
abbrev Ae:=e.c.f
abbrev Af:=e.c.c
abbrev Ag:=e.f.a
abbrev Ah:=e.f.b
abbrev Ai:=e.f.c
abbrev Aj:=e.f.f
abbrev Ak:=e.a.a.a
abbrev Al:=e.a.a.b
abbrev Am:=e.a.a.c
abbrev An:=e.a.b.a
abbrev Ao:=e.a.f.a
abbrev Ap:=e.a.a.f
abbrev Aq:=e.b.a.c
abbrev Ar:=e.a.b.f
abbrev As:=e.a.c.c
abbrev At:=e.b.a.a
abbrev Au:=e.a.b.b
abbrev Av:=e.a.b.c
abbrev Aw:=e.a.c.a
abbrev Ax:=e.a.c.b
abbrev Ay:=e.b.a.f
abbrev Az:=e.a.c.f
abbrev B0:=e.a.f.b
abbrev B1:=e.a.f.c
abbrev B2:=e.a.f.f
abbrev B3:=e.b.a.b
abbrev B4:=e.b.b.c
abbrev B5:=e.b.b.b
abbrev B6:=e.b.b.a
abbrev B7:=e.b.b.f
abbrev B8:=e.b.c.a
abbrev B9:=e.b.c.b
abbrev Ba:=e.b.c.c
abbrev Bb:=e.b.f.a
abbrev Bc:=e.c.f.f
abbrev Bd:=e.b.c.f
abbrev Be:=e.b.f.b
abbrev Bf:=e.f.a.a
abbrev Bg:=e.f.f.f
abbrev Bh:=e.f.b.b
abbrev Bi:=e.b.f.c
abbrev Bj:=e.c.a.a
abbrev Bk:=e.b.f.f
abbrev Bl:=e.c.a.b
abbrev Bm:=e.c.a.c
abbrev Bn:=e.c.a.f
abbrev Bo:=e.c.b.a
abbrev Bp:=e.c.b.b
abbrev Bq:=e.c.b.c
abbrev Br:=e.c.b.f
abbrev Bs:=e.c.c.a
abbrev Bt:=e.c.c.b
abbrev Bu:=e.c.c.c
abbrev Bv:=e.c.c.f
abbrev Bw:=e.c.f.a
abbrev Bx:=e.c.f.c
abbrev By:=e.f.a.b
abbrev Bz:=e.f.a.c
abbrev C0:=e.f.a.f
abbrev C1:=e.f.b.a
abbrev C2:=e.f.b.c
abbrev C3:=e.f.b.f
abbrev C4:=e.f.c.a
abbrev C5:=e.f.c.b
abbrev C6:=e.f.c.c
abbrev C7:=e.f.c.f
abbrev C8:=e.c.f.b
abbrev C9:=e.a.c.b.a
abbrev Ca:=e.f.f.a
abbrev Cb:=e.f.f.b
abbrev Cc:=e.f.f.c
abbrev Cd:=e.a.a.a.a
abbrev Ce:=e.a.a.a.b
abbrev Cf:=e.a.a.a.c
abbrev Cg:=e.a.a.a.f
abbrev Ch:=e.a.a.b.a
abbrev Ci:=e.a.a.b.b
abbrev Cj:=e.a.a.b.c
abbrev Ck:=e.a.a.b.f
abbrev Cl:=e.a.b.a.b
abbrev Cm:=e.a.c.c.f
abbrev Cn:=e.a.a.c.a
end Nm.C
namespace LX
open Go Nm Go.Proofs
open Nm.D4 (e)
open Nm.NC (reg regD)
open Nm.C
noncomputable section
def Ew:NFun:=⟨(reg [o A8 (.move kf) 0]).seq ((reg [o A3 (.call (F 4) []) 0,m Ab A3 1]).seq (((reg [m A2 Ab 0,o A7 (.un .not A2) 1,m A6 A7 2,G Aa (.move e) A6 false 3,G A9 (.lenSlc Aa) A6 false 4,G Ac (.bin .num .gtr A9 (k 3000)) A6 false 5,o Ad (.pick A6 kt Ac) 6]).seq (cd Ad ((reg [m Af Ab 0,m A8 Af 1]).seq rt) sk)).seq ((reg [m Ag e 0,o Ah (.call (F 5) [Ag]) 1,m Ae Ah 2,x Ai Ae 0 3,x Aj Ae 1 4,x Ak Ae 2 5,o A1 (.alloc [z4,z4,z4] 28) 6,q (.store 3 A1 Ai) 7,m A0 Aj 8,m A4 Ak 9]).seq (((reg [m Al A4 0,o Am (.call (F 6) [Al]) 1,b Ap .eql Am (k 0) 2]).seq (cd Ap ((reg [m An A0 0,m Au e 1,L Av Au 2,b Ar .eql An Av 3,m A8 Ar 4]).seq rt) sk)).seq ((reg [m Aw A0 0,b Ax .geq Aw (k 0) 1,m As Ax 2,G Az (.move A0) As true 3,G Ao (.move e) As true 4,G B0 (.lenSlc Ao) As true 5,G B1 (.bin .num .leq Az B0) As true 6,o B2 (.pick As B1 kf) 7,m At B2 8,G B3 (.fieldAddr 0 A1) At true 9,G Aq (.load1 B3) At true 10,G Ay (.lenSlc Aq) At true 11,G B6 (.bin .num .eql Ay (k 0)) At true 12,o B5 (.pick At B6 kf) 13,m B4 B5 14,G B7 (.fieldAddr 1 A1) B4 true 15,G B8 (.load1 B7) B4 true 16,G B9 (.lenSlc B8) B4 true 17,G Ba (.bin .num .eql B9 (k 0)) B4 true 18,o Bd (.pick B4 Ba kf) 19,m Bb Bd 20,G Be (.fieldAddr 2 A1) Bb true 21,G Bi (.load1 Be) Bb true 22,G Bk (.lenSlc Bi) Bb true 23,G Bj (.bin .num .eql Bk (k 0)) Bb true 24,o Bl (.pick Bb Bj kf) 25,m A8 Bl 26]).seq rt))))),55, [.tmp A8]⟩
theorem ph:av Try.prog 3=some (.code Ew):=by kernel_rfl
def Fs:NFun:=⟨(reg [o e (.move kf) 0]).seq ((reg [o A2 (.call (F 5) [kn]) 0,m A3 A2 1,x A7 A3 0 2,x A6 A3 1 3,x Aa A3 2 4,o A5 (.alloc [z4,z4,z4] 28) 5,q (.store 3 A5 A7) 6,m A8 A6 7,m Ab Aa 8]).seq ((reg [o Ac (.buildSlice [z2,z2,z2,z2,z2,z2,z2,z2,z2,z2,z2,z2,z2,z2,z2,z2,z2,z2,z2] 1 19 5 [(0,1,kb 116),(1,1,kb 104),(2,1,kb 114),(3,1,kb 101),(4,1,kb 97),(5,1,kb 100),(6,1,kb 32),(7,1,kb 116),(8,1,kb 32),(9,1,kb 123),(10,1,kb 32),(11,1,kb 111),(12,1,kb 117),(13,1,kb 116),(14,1,kb 32),(15,1,kb 49),(16,1,kb 59),(17,1,kb 32),(18,1,kb 125)]) 0,o Ad (.sameSlc Ac) 1,o Af (.call (F 5) [Ad]) 2,m A9 Af 3,x Ae A9 0 4,x Ag A9 1 5,x Ah A9 2 6,o A1 (.alloc [z4,z4,z4] 28) 7,q (.store 3 A1 Ae) 8,m A0 Ag 9,m A4 Ah 10]).seq ((reg [m Ai Ab 0,o Aj (.call (F 6) [Ai]) 1,b Ak .eql Aj (k 0) 2,m Al Ak 3,G Am (.fieldAddr 1 A5) Al true 4,G Ap (.load1 Am) Al true 5,G An (.lenSlc Ap) Al true 6,G Au (.bin .num .eql An (k 0)) Al true 7,o Av (.pick Al Au kf) 8,m Ar Av 9,G Aw (.move A4) Ar true 10,G Ax (.call (F 6) [Aw]) Ar true 11,G As (.bin .num .eql Ax (k 0)) Ar true 12,o Az (.pick Ar As kf) 13,m Ao Az 14,G B0 (.fieldAddr 1 A1) Ao true 15,G B1 (.load1 B0) Ao true 16,G B2 (.lenSlc B1) Ao true 17,G At (.bin .num .eql B2 (k 1)) Ao true 18,o B3 (.pick Ao At kf) 19,m Aq B3 20,G Ay (.fieldAddr 1 A1) Aq true 21,G B6 (.load1 Ay) Aq true 22,G B5 (.indexSlc 2 B6 (k 0)) Aq true 23,G B4 (.fieldAddr 1 B5) Aq true 24,G B7 (.load1 B4) Aq true 25,G B8 (.lenSlc B7) Aq true 26,G B9 (.bin .num .eql B8 (k 1)) Aq true 27,o Ba (.pick Aq B9 kf) 28,m e Ba 29]).seq rt))),48, [.tmp e]⟩
theorem zC:av Try.prog 4=some (.code Fs):=by kernel_rfl
def Du:NFun:=⟨(reg [o A8 (.alloc [z4,z4,z4] 28) 0,o Ab (.alloc [z0] 3) 1,o A1 (.alloc [z0] 29) 2]).seq ((reg [m A2 e 0,o A7 (.call (F 7) [A2]) 1,m A3 A7 2,x A6 A3 0 3,x Aa A3 1 4,x A9 A3 2 5,o A0 (.alloc [z4] 36) 6,q (.store 1 A0 A6) 7,q (.store 1 Ab Aa) 8,q (.store 1 A1 A9) 9]).seq (((reg [l Ac A1 0,b Ad .neq Ac (k 0) 1]).seq (cd Ad ((regD [o Af (.build [z4,z4,z4] []) 0,l Ae Ab 1,l Ag A1 2,⟨none,.store 3 A8 Af,none,1,3⟩,⟨none,.store 1 Ab Ae,none,11,4⟩,⟨none,.store 1 A1 Ag,none,31,5⟩]).seq rt) sk)).seq ((reg [o Ah (.mkFn 8 [A0,A8,Ab,A1]) 0,q (.defer Ah) 1]).seq ((reg [l Ai A0 0,o Aj (.build [z4,z0] [(0,1,Ai)]) 1,o Ak (.box Aj 47) 2,m A4 Ak 3]).seq ((reg [m Al A4 0,o Am (.call (F 10) [Al]) 1,m Ap e 2,L An Ap 3,q (.store 3 A8 Am) 4,q (.store 1 Ab An) 5,q (.store 1 A1 (k 0)) 6]).seq rt))))),26, [.cellN A8 3,.cell1 Ab,.cell1 A1]⟩
theorem mi:av Try.prog 5=some (.code Du):=by kernel_rfl
def EZ:NFun:=⟨(reg [o A8 (.move (k 0)) 0]).seq ((reg [m Ab e 0,m A8 Ab 1]).seq rt),4, [.tmp A8]⟩
theorem uz:av Try.prog 6=some (.code EZ):=by kernel_rfl
def cz:NC:=(reg [o A2 (.alloc [z0,z3,z1,z0] 44) 0,q (.store 4 A2 Af) 1])
def cy:NC:=(bk 1 (reg [l Ae A3 0,o Ag (.loadN 4 A2) 1,o Ah (.buildSlice [z0,z3,z1,z0] 4 1 44 [(0,4,Ag)]) 2,o Ai (.append 4 40 44 Ae Ah) 3,q (.store 1 A3 Ai) 4]))
def Fa:NFun:=⟨(reg [o A8 (.move kn) 0,o Ab (.move (k 0)) 1,o A1 (.move (k 0)) 2]).seq (((reg [m A7 e 0,L A6 A7 1,b Aa .gtr A6 (k 16384) 2]).seq (cd Aa ((reg [o A8 (.move kn) 0,o Ab (.move (k 0)) 1,o A1 (.move (k 3)) 2]).seq rt) sk)).seq ((reg [o A0 (.alloc [z0] 3) 0,o A4 (.alloc [.bool false] 4) 1,q (.store 1 A0 (k 0)) 2,q (.store 1 A4 kf) 3]).seq ((reg [o A3 (.alloc [z4] 36) 0]).seq (((reg [m A9 e 0,o Ac (.bytesToStr A9) 1,o Ad (.call (F 11) [Ac,A0,A4]) 2]).seq (bk 0 (NC.rangeFunc Ad [Af] cz cy))).seq (((reg [l Aj A4 0]).seq (cd Aj ((regD [l Ak A0 0,o A8 (.move kn) 1,O Ab (.move Ak) 3 2,O A1 (.move (k 2)) 7 3]).seq rt) sk)).seq ((regD [l Al A3 0,l Am A0 1,O A8 (.move Al) 1 2,O Ab (.move Am) 7 3,O A1 (.move (k 0)) 15 4]).seq rt)))))),24, [.tmp A8,.tmp Ab,.tmp A1]⟩
theorem uJ:av Try.prog 7=some (.code Fa):=by kernel_rfl
def AW:NFun:=⟨(reg [o A4 (.recover) 0,m A1 A4 1]).seq ((reg [m A3 A1 0,o A2 (.bin .ifc .neq A3 (.const .nili)) 1]).seq (cd A2 ((reg [m A7 A1 0,o A6 (.call (F 9) [A7]) 1,o A0 (.alloc [z0,z0] 40) 2,q (.store 2 A0 A6) 3]).seq (regD [o Aa (.build [z4,z4,z4] []) 0,l A9 e 1,f 1 Ac A0 2,O Ad (.load1 Ac) 4 3,l Af e 4,O Ae (.lenSlc Af) 16 5,O Ag (.bin .num .sub Ae (k 1)) 48 6,O Ah (.minmax false [Ad,Ag]) 124 7,O Ai (.indexSlc 4 A9 Ah) 254 8,O Aj (.fieldAddr 3 Ai) 510 9,O Ak (.load1 Aj) 1022 10,f 0 Al A0 11,O Am (.load1 Al) 2048 12,⟨none,.store 3 A5 Aa,none,2047,13⟩,⟨none,.store 1 A8 Ak,none,10239,14⟩,⟨none,.store 1 Ab Am,none,32767,15⟩])) sk)),24, []⟩
theorem pH:av Try.prog 8=some (.code AW):=by kernel_rfl
def Ex:NFun:=⟨(reg [o A8 (.alloc [z0,z0] 40) 0]).seq ((reg [m A4 e 0,o A3 (.typeAssert 40 (.agg [z0,z0]) A4) 1,m A0 A3 2,x A2 A0 0 3,x A7 A0 1 4,o Ab (.alloc [z0,z0] 40) 5,q (.store 2 Ab A2) 6,m A1 A7 7]).seq (((reg [m A6 A1 0,o Aa (.un .not A6) 1]).seq (cd Aa (reg [m A9 e 0,q (.panic A9) 1]) sk)).seq ((reg [o Ac (.loadN 2 Ab) 0,q (.store 2 A8 Ac) 1]).seq rt))),14, [.cellN A8 2]⟩
theorem tJ:av Try.prog 9=some (.code Ex):=by kernel_rfl
def rb:NC:=(((reg [m A4 e 0,o A3 (.call (F 12) [A4]) 1,o A2 (.field1 0 A3) 2,b A7 .neq A2 (k 5) 3]).seq (cd A7 sk (ex 0))).seq (bk 1 (bk 2 ((reg [m Ac e 0,o Ad (.call (F 13) [Ac,k 4,.const (.str [99,101,108,108])]) 1,m A9 Ad 2]).seq (cd A9 (regD [f 0 Af Ab 0,O Ae (.load1 Af) 1 1,m Ag e 2,O Ah (.call (F 14) [Ag]) 4 3,O Ai (.buildSlice [z3,z0] 2 1 58 [(0,2,Ah)]) 12 4,O Aj (.append 2 24 58 Ae Ai) 31 5,O Ak (.fieldAddr 0 Ab) 63 6,⟨none,.store 1 Ak Aj,none,127,7⟩]) ((reg [m Am e 0,o Ap (.call (F 13) [Am,k 4,.const (.str [116,104,114,101,97,100])]) 1,m Al Ap 2]).seq (cd Al ((reg [m An e 0,o Au (.call (F 15) [An,k 1]) 1,o Av (.field1 1 Au) 2,m A0 Av 3]).seq (regD [f 1 Ar Ab 0,O Aw (.load1 Ar) 1 1,m Ax A0 2,m As e 3,O Az (.call (F 16) [As,k 0]) 8 4,O Ao (.build [z3,z4] [(0,1,Ax),(1,1,Az)]) 28 5,O B0 (.buildSlice [z3,z4] 2 1 35 [(0,2,Ao)]) 60 6,O B1 (.append 2 40 35 Aw B0) 127 7,O B2 (.fieldAddr 1 Ab) 255 8,⟨none,.store 1 B2 B1,none,511,9⟩])) ((reg [m B3 A1 0,m Aq B3 1,G Ay (.move e) Aq true 2,G B6 (.call (F 17) [Ay,k 4,.const (.str [114,101,99,111,118,101,114])]) Aq true 3,o B5 (.pick Aq B6 kf) 4,m At B5 5]).seq (cd At (reg [m B4 e 0,o B7 (.call (F 18) [B4,k 5]) 1]) ((reg [m B9 e 0,o Ba (.call (F 13) [B9,k 4,.const (.str [114,101,99,111,118,101,114])]) 1,m B8 Ba 2]).seq (cd B8 ((reg [o A1 (.move kt) 0]).seq (reg [m Bd e 0,o Bb (.call (F 16) [Bd,k 0]) 1,f 2 Be Ab 2,q (.store 1 Be Bb) 3])) (reg [m A6 e 0,o Aa (.call (F 18) [A6,k 2]) 1]))))))))))))
def yB:NFun:=⟨(reg [o A8 (.alloc [z4,z4,z4] 28) 0]).seq ((reg [o Ab (.alloc [z4,z4,z4] 28) 0]).seq ((reg [o A1 (.move kf) 0]).seq ((bk 0 rb.loop).seq ((reg [o Bi (.loadN 3 Ab) 0,q (.store 3 A8 Bi) 1]).seq rt)))),52, [.cellN A8 3]⟩
theorem qB:av Try.prog 10=some (.code yB):=by kernel_rfl
def yQ:NFun:=⟨(reg [o Ab (.box e 9) 0,o A1 (.box A5 52) 1,o A0 (.box A8 53) 2,o A4 (.move (.const .nilf)) 3]).seq ((reg [o A3 (.mkFn 19 [Ab,A1,A0]) 0,m A4 A3 1]).seq rt),8, [.tmp A4]⟩
theorem rA:av Try.prog 11=some (.code yQ):=by kernel_rfl
def yb:NFun:=⟨(reg [o A8 (.alloc [z0,z3,z1,z0] 44) 0]).seq (((regD [m Ab e 0,O A1 (.nilCheck Ab) 1 1,O A0 (.fieldAddr 1 A1) 3 2,O A4 (.load1 A0) 7 3,O A3 (.bin .num .lss A4 (k 0)) 15 4,O A2 (.move A3) 31 5,⟨some A7,.move e,some (A2,false),63,6⟩,⟨some A6,.nilCheck A7,some (A2,false),127,7⟩,⟨some Aa,.fieldAddr 1 A6,some (A2,false),255,8⟩,⟨some A9,.load1 Aa,some (A2,false),511,9⟩,⟨some Ac,.move e,some (A2,false),63,10⟩,⟨some Ad,.nilCheck Ac,some (A2,false),1087,11⟩,⟨some Af,.fieldAddr 0 Ad,some (A2,false),3135,12⟩,⟨some Ae,.load1 Af,some (A2,false),7231,13⟩,⟨some Ag,.lenSlc Ae,some (A2,false),15423,14⟩,⟨some Ah,.bin .num .geq A9 Ag,some (A2,false),32767,15⟩,O Ai (.pick A2 kt Ah) 65535 16]).seq (cd Ai ((reg [o Aj (.build [z0,z3,z1,z0] []) 0,q (.store 4 A8 Aj) 1]).seq rt) sk)).seq ((regD [m Ak e 0,O Al (.nilCheck Ak) 1 1,O Am (.fieldAddr 0 Al) 3 2,O Ap (.load1 Am) 7 3,m An e 4,O Au (.nilCheck An) 16 5,O Av (.fieldAddr 1 Au) 48 6,O Ar (.load1 Av) 112 7,O Aw (.indexSlc 4 Ap Ar) 255 8,O Ax (.loadN 4 Aw) 511 9,⟨none,.store 4 A8 Ax,none,1023,10⟩]).seq rt)),31, [.cellN A8 4]⟩
theorem rC:av Try.prog 12=some (.code yb):=by kernel_rfl
def yw:NFun:=⟨(reg [o A4 (.move kf) 0]).seq ((reg [m A2 e 0,m A7 A5 1,m A6 A8 2,o Aa (.call (F 17) [A2,A7,A6]) 3,m A3 Aa 4]).seq (((reg [m A9 A3 0]).seq (cd A9 (reg [m Ac e 0,n Ad Ac 1,f 1 Af Ad 2,l Ae Af 3,b Ag .add Ae (k 1) 4,n Ah Ac 5,f 1 Ai Ah 6,q (.store 1 Ai Ag) 7]) sk)).seq ((reg [m Aj A3 0,m A4 Aj 1]).seq rt))),21, [.tmp A4]⟩
theorem qq:av Try.prog 13=some (.code yw):=by kernel_rfl
def yK:NFun:=⟨(reg [o A8 (.alloc [z3,z0] 58) 0]).seq ((reg [m A1 e 0,o A0 (.call (F 15) [A1,k 1]) 1,o A4 (.field1 1 A0) 2,o A3 (.build [z3,z0] [(0,1,A4),(1,1,k 1)]) 3,o Ab (.alloc [z3,z0] 58) 4,q (.store 2 Ab A3) 5]).seq (((reg [m A2 e 0,o A7 (.call (F 13) [A2,k 3,.const (.str [91])]) 1]).seq (cd A7 ((reg [m A6 e 0,o Aa (.call (F 15) [A6,k 2]) 1,o A9 (.field1 2 Aa) 2,o Ac (.minmax false [A9,ku 1048576]) 3,o Ad (.toInt .i64 Ac) 4,f 1 Af Ab 5,q (.store 1 Af Ad) 6]).seq (reg [m Ae e 0,o Ag (.call (F 22) [Ae,.const (.str [93])]) 1])) sk)).seq ((reg [m Ah e 0,o Ai (.call (F 22) [Ah,.const (.str [59])]) 1]).seq ((reg [o Aj (.loadN 2 Ab) 0,q (.store 2 A8 Aj) 1]).seq rt)))),21, [.cellN A8 2]⟩
theorem rI:av Try.prog 14=some (.code yK):=by kernel_rfl
def AR:NFun:=⟨(reg [o A1 (.alloc [z0,z3,z1,z0] 44) 0]).seq ((reg [m A4 e 0,o A3 (.call (F 12) [A4]) 1,o A0 (.alloc [z0,z3,z1,z0] 44) 2,q (.store 4 A0 A3) 3]).seq (((reg [f 0 A2 A0 0,l A7 A2 1,m A6 A5 2,b Aa .neq A7 A6 3]).seq (cd Aa (reg [m A9 e 0,o Ac (.call (F 18) [A9,k 2]) 1]) sk)).seq ((reg [m Ad e 0,n Af Ad 1,f 1 Ae Af 2,l Ag Ae 3,b Ah .add Ag (k 1) 4,n Ai Ad 5,f 1 Aj Ai 6,q (.store 1 Aj Ah) 7]).seq ((reg [o Ak (.loadN 4 A0) 0,q (.store 4 A1 Ak) 1]).seq rt)))),22, [.cellN A1 4]⟩
theorem qg:av Try.prog 15=some (.code AR):=by kernel_rfl
def lW:NC:=(((reg [m Ae e 0,o Ag (.call (F 13) [Ae,k 3,.const (.str [125])]) 1,o Ah (.un .not Ag) 2]).seq (cd Ah sk (ex 0))).seq (bk 1 (reg [m Ai A0 0,m Aj e 1,m Ak A5 2,o Al (.call (F 23) [Aj,Ak]) 3,o Am (.buildSlice [z0,z0,z3,z3,z0,z1,z2,z3,z4,z0,z1,z2,z3,z4,z0,z1,z2,z3,z4,z4,z4] 21 1 72 [(0,21,Al)]) 4,o Ap (.append 21 288 72 Ai Am) 5,m A0 Ap 6])))
def yO:NFun:=⟨(reg [o A1 (.move kn) 0]).seq (((reg [m A4 e 0,o A3 (.call (F 17) [A4,k 3,.const (.str [123])]) 1,m A2 A3 2,G A7 (.move A5) A2 true 3,G A6 (.bin .num .gtr A7 (k 29)) A2 true 4,o Aa (.pick A2 A6 kf) 5]).seq (cd Aa (reg [m A9 e 0,o Ac (.call (F 18) [A9,k 11]) 1]) sk)).seq ((reg [m Ad e 0,o Af (.call (F 22) [Ad,.const (.str [123])]) 1]).seq ((reg [o A0 (.move kn) 0]).seq ((bk 0 lW.loop).seq ((reg [m An A0 0,m A1 An 1]).seq rt))))),26, [.tmp A1]⟩
theorem qm:av Try.prog 16=some (.code yO):=by kernel_rfl
def AL:NFun:=⟨(reg [o A4 (.move kf) 0]).seq ((reg [m A2 e 0,o A7 (.call (F 12) [A2]) 1,o A3 (.alloc [z0,z3,z1,z0] 44) 2,q (.store 4 A3 A7) 3]).seq ((reg [f 0 A6 A3 0,l Aa A6 1,m A9 A5 2,b Ac .eql Aa A9 3,m Ad Ac 4,G Af (.fieldAddr 1 A3) Ad true 5,G Ae (.load1 Af) Ad true 6,G Ag (.move A8) Ad true 7,G Ah (.bin .num .eql Ae Ag) Ad true 8,o Ai (.pick Ad Ah kf) 9,m A4 Ai 10]).seq rt)),20, [.tmp A4]⟩
theorem rH:av Try.prog 17=some (.code AL):=by kernel_rfl
def xZ:NFun:=⟨reg [m A1 A5 0,m A0 e 1,n A4 A0 2,f 1 A3 A4 3,l A2 A3 4,o A7 (.build [z0,z0] [(0,1,A1),(1,1,A2)]) 5,o A6 (.mkIfc 40 A7) 6,q (.panic A6) 7],11, []⟩
theorem ql:av Try.prog 18=some (.code xZ):=by kernel_rfl
def qx:NC:=(((reg [m Aa A0 0,l A9 A5 1,o Ac (.lenStr A9) 2,b Ad .lss Aa Ac 3]).seq (cd Ad sk (ex 0))).seq (bk 1 ((reg [l Af A8 0,m Ae A0 1,n Ag Af 2,q (.store 1 Ag Ae) 3]).seq ((reg [l Ai A5 0,m Aj A0 1,o Ak (.call (F 21) [Ai,Aj]) 2,m Ah Ak 3,x Al Ah 0 4,x Am Ah 1 5,x Ap Ah 2 6,o A4 (.alloc [z0,z3,z1,z0] 44) 7,q (.store 4 A4 Al) 8,m A3 Am 9,m A2 Ap 10]).seq (((reg [m An A2 0,o Au (.un .not An) 1]).seq (cd Au ((reg [l Av Ab 0,n Ar Av 1,q (.store 1 Ar kt) 2]).seq rt) sk)).seq (((reg [m Aw e 0,o Ax (.loadN 4 A4) 1,o As (.call Aw [Ax]) 2,o Az (.un .not As) 3]).seq (cd Az rt sk)).seq (reg [l Ao A5 0,m B0 A0 1,m B1 A3 2,b B2 .add B0 B1 3,o At (.call (F 20) [Ao,B2]) 4,m A0 At 5])))))))
def z7:NFun:=⟨(reg [l A7 A5 0,o A6 (.call (F 20) [A7,k 0]) 1,m A0 A6 2]).seq ((bk 0 qx.loop).seq ((reg [l B3 A8 0,l Aq A5 1,o Ay (.lenStr Aq) 2,n B6 B3 3,q (.store 1 B6 Ay) 4]).seq (reg [m B5 e 0,l B4 A5 1,o B7 (.lenStr B4) 2,o B8 (.build [z0,z3,z1,z0] [(0,1,k 5),(3,1,B7)]) 3,o B9 (.call B5 [B8]) 4]))),47, []⟩
theorem qO:av Try.prog 19=some (.code z7):=by kernel_rfl
def rx:NC:=(bk 1 ((reg [m A0 e 0,m A4 A5 1,o A3 (.call (F 24) [A0,A4,.const (.fn 25 [])]) 2,m A5 A3 3]).seq (((reg [m A2 A5 0,m A7 e 1,o A6 (.lenStr A7) 2,b Aa .eql A2 A6 3,m A9 Aa 4,G Ac (.move e) A9 false 5,G Ad (.move A5) A9 false 6,G Af (.indexStr Ac Ad) A9 false 7,G Ae (.bin .num .neq Af (kb 35)) A9 false 8,o Ag (.pick A9 kt Ae) 9]).seq (cd Ag ((reg [m Ah A5 0,m A1 Ah 1]).seq rt) sk)).seq (reg [m Ai e 0,m Aj A5 1,o Ak (.call (F 24) [Ai,Aj,.const (.fn 26 [])]) 2,m A5 Ak 3]))))
def yg:NFun:=⟨(reg [o A1 (.move (k 0)) 0]).seq (bk 0 rx.loop),22, [.tmp A1]⟩
theorem qU:av Try.prog 20=some (.code yg):=by kernel_rfl
def zW:NFun:=⟨(reg [o A1 (.alloc [z0,z3,z1,z0] 44) 0,o A0 (.move (k 0)) 1,o A4 (.move kf) 2]).seq ((reg [m Ac A5 0,o Ad (.build [z0,z3,z1,z0] [(3,1,Ac)]) 1,o A3 (.alloc [z0,z3,z1,z0] 44) 2,q (.store 4 A3 Ad) 3]).seq (((reg [m Af e 0,m Ae A5 1,o Ag (.indexStr Af Ae) 2,m A2 Ag 3]).seq (bk 0 ((reg [m Ai A2 0,o Aj (.call (F 27) [Ai]) 1,m Ah Aj 2]).seq (cd Ah ((reg [m Ak e 0,m Al A5 1,o Am (.call (F 24) [Ak,Al,.const (.fn 28 [])]) 2,m A7 Am 3]).seq ((regD [m Ap e 0,m An A5 1,m Au A7 2,O Av (.sliceStr Ap (some An) (some Au)) 7 3,f 0 Ar A3 4,⟨none,.store 1 Ar (k 1),none,16,5⟩,O Aw (.fieldAddr 1 A3) 63 6,⟨none,.store 1 Aw Av,none,127,7⟩]).seq (((regD [f 1 As A3 1,O Az (.load1 As) 2 2,o Ax (.call (F 30) []) 0,O Ao (.call (F 29) [Ax,Az]) 7 3]).seq (cd Ao (reg [f 0 B0 A3 0,q (.store 1 B0 (k 4)) 1]) sk)).seq ((regD [o B1 (.loadN 4 A3) 0,m B2 A7 1,m At A5 2,O B3 (.bin .num .sub B2 At) 6 3,f 0 Aq A3 4,O Ay (.load1 Aq) 16 5,O B6 (.bin .num .eql Ay (k 4)) 48 6,O B5 (.move B6) 112 7,⟨some B4,.fieldAddr 1 A3,some (B5,false),240,8⟩,⟨some B7,.load1 B4,some (B5,false),496,9⟩,⟨some B8,.call (F 31) [B7],some (B5,false),1008,10⟩,O B9 (.pick B5 kt B8) 2032 11,⟨none,.store 4 A1 B1,none,2033,12⟩,O A0 (.move B3) 6143 13,O A4 (.move B9) 16383 14]).seq rt)))) ((reg [m Bd A2 0,o Bb (.call (F 32) [Bd]) 1,m Ba Bb 2]).seq (cd Ba ((reg [m Be e 0,m Bi A5 1,o Bk (.call (F 24) [Be,Bi,.const (.fn 32 [])]) 2,m A6 Bk 3]).seq ((reg [m Bl e 0,m Bm A5 1,m Bn A6 2,o Bo (.sliceStr Bl (some Bm) (some Bn)) 3,o Bp (.call (F 33) [Bo]) 4,m Bj Bp 5,x Bq Bj 0 6,x Br Bj 1 7,m Aa Bq 8,m A9 Br 9]).seq ((reg [m Bs Aa 0,f 0 Bt A3 1,q (.store 1 Bt (k 2)) 2,f 2 Bu A3 3,q (.store 1 Bu Bs) 4]).seq ((regD [o Bv (.loadN 4 A3) 0,m Bw A6 1,m C8 A5 2,O Bx (.bin .num .sub Bw C8) 6 3,m Bc A9 4,O Bf (.move Bc) 16 5,⟨some By,.move A6,some (Bf,true),48,6⟩,⟨some Bz,.move e,some (Bf,true),48,7⟩,⟨some C0,.lenStr Bz,some (Bf,true),176,8⟩,⟨some C1,.bin .num .eql By C0,some (Bf,true),496,9⟩,⟨some Bh,.move C1,some (Bf,true),1008,10⟩,⟨some C2,.move e,some (Bh,false),2032,11⟩,⟨some C3,.move A6,some (Bh,false),2032,12⟩,⟨some C4,.indexStr C2 C3,some (Bh,false),8176,13⟩,⟨some C5,.call (F 28) [C4],some (Bh,false),16368,14⟩,⟨some C6,.un .not C5,some (Bh,false),32752,15⟩,⟨some C7,.pick Bh kt C6,some (Bf,true),65520,16⟩,O Ca (.pick Bf C7 kf) 131056 17,⟨none,.store 4 A1 Bv,none,32753,18⟩,O A0 (.move Bx) 294911 19,O A4 (.move Ca) 1048575 20]).seq rt)))) sk)))))).seq ((regD [m Cb e 0,m Cc A5 1,m Bg A5 2,O Cd (.bin .num .add Bg (k 1)) 4 3,O Ce (.sliceStr Cb (some Cc) (some Cd)) 15 4,f 0 Cf A3 5,⟨none,.store 1 Cf (k 3),none,32,6⟩,O Cg (.fieldAddr 1 A3) 127 7,⟨none,.store 1 Cg Ce,none,255,8⟩]).seq ((regD [o Ch (.loadN 4 A3) 0,f 1 Ci A3 1,O Cj (.load1 Ci) 2 2,O Ck (.call (F 34) [.const (.str [123,125,40,41,91,93,59,43,45,42,38,61,60]),Cj]) 6 3,⟨none,.store 4 A1 Ch,none,15,4⟩,O A0 (.move (k 1)) 31 5,O A4 (.move Ck) 63 6]).seq rt)))),93, [.cellN A1 4,.tmp A0,.tmp A4]⟩
theorem ry:av Try.prog 21=some (.code zW):=by kernel_rfl
def wH:NFun:=⟨(reg [m A1 e 0,m A0 A5 1,o A4 (.call (F 13) [A1,k 3,A0]) 2,o A3 (.un .not A4) 3]).seq (cd A3 (reg [m A2 e 0,o A7 (.call (F 18) [A2,k 2]) 1]) sk),10, []⟩
theorem lY:av Try.prog 22=some (.code wH):=by kernel_rfl
def yW:NFun:=⟨(reg [o A1 (.alloc [z0,z0,z3,z3,z0,z1,z2,z3,z4,z0,z1,z2,z3,z4,z0,z1,z2,z3,z4,z4,z4] 72) 0]).seq ((reg [m A4 e 0,o A3 (.call (F 12) [A4]) 1,o A2 (.field1 3 A3) 2,o A7 (.build [z0,z0,z3,z3,z0,z1,z2,z3,z4,z0,z1,z2,z3,z4,z0,z1,z2,z3,z4,z4,z4] [(1,1,A2)]) 3,o A0 (.alloc [z0,z0,z3,z3,z0,z1,z2,z3,z4,z0,z1,z2,z3,z4,z0,z1,z2,z3,z4,z4,z4] 72) 4,q (.store 21 A0 A7) 5]).seq ((bk 0 ((reg [m Aa e 0,o A9 (.call (F 13) [Aa,k 4,.const (.str [105,102])]) 1,m A6 A9 2]).seq (cd A6 ((reg [m Ac e 0,o Ad (.call (F 35) [Ac]) 1,f 0 Af A0 2,q (.store 1 Af (k 6)) 3,f 9 Ae A0 4,q (.store 5 Ae Ad) 5]).seq ((reg [m Ag e 0,m Ah A5 1,b Ai .add Ah (k 1) 2,o Aj (.call (F 16) [Ag,Ai]) 3,f 19 Ak A0 4,q (.store 1 Ak Aj) 5]).seq (((reg [m Al e 0,o Am (.call (F 13) [Al,k 4,.const (.str [101,108,115,101])]) 1]).seq (cd Am (reg [m Ap e 0,m An A5 1,b Au .add An (k 1) 2,o Av (.call (F 16) [Ap,Au]) 3,f 20 Ar A0 4,q (.store 1 Ar Av) 5]) sk)).seq ((reg [o Aw (.loadN 21 A0) 0,q (.store 21 A1 Aw) 1]).seq rt)))) ((reg [m As e 0,o Az (.call (F 13) [As,k 4,.const (.str [119,104,105,108,101])]) 1,m Ax Az 2]).seq (cd Ax ((reg [m Ao e 0,o B0 (.call (F 35) [Ao]) 1,f 0 B1 A0 2,q (.store 1 B1 (k 7)) 3,f 9 B2 A0 4,q (.store 5 B2 B0) 5]).seq ((reg [m At e 0,m B3 A5 1,b Aq .add B3 (k 1) 2,o Ay (.call (F 16) [At,Aq]) 3,f 19 B6 A0 4,q (.store 1 B6 Ay) 5]).seq ((reg [o B5 (.loadN 21 A0) 0,q (.store 21 A1 B5) 1]).seq rt))) sk))))).seq ((reg [m B4 e 0,o B7 (.call (F 36) [B4,A0]) 1]).seq ((reg [m B8 e 0,o B9 (.call (F 22) [B8,.const (.str [59])]) 1]).seq ((reg [o Ba (.loadN 21 A0) 0,q (.store 21 A1 Ba) 1]).seq rt))))),48, [.cellN A1 21]⟩
theorem qF:av Try.prog 23=some (.code yW):=by kernel_rfl
def qS:NC:=(((reg [m A3 A5 0,m A2 e 1,o A7 (.lenStr A2) 2,b A6 .lss A3 A7 3,m Aa A6 4,G A9 (.move A8) Aa true 5,G Ac (.move e) Aa true 6,G Ad (.move A5) Aa true 7,G Af (.indexStr Ac Ad) Aa true 8,G Ae (.call A9 [Af]) Aa true 9,o Ag (.pick Aa Ae kf) 10]).seq (cd Ag sk (ex 0))).seq (bk 1 (reg [m Ah A5 0,b Ai .add Ah (k 1) 1,m A5 Ai 2])))
def zh:NFun:=⟨(reg [o A4 (.move (k 0)) 0]).seq ((bk 0 qS.loop).seq ((reg [m Aj A5 0,m A4 Aj 1]).seq rt)),21, [.tmp A4]⟩
theorem rf:av Try.prog 24=some (.code zh):=by kernel_rfl
def yf:NFun:=⟨(reg [o A8 (.move kf) 0]).seq ((reg [m Ab e 0,b A1 .eql Ab (kb 32) 1,m A0 A1 2,G A4 (.move e) A0 false 3,G A3 (.bin .num .eql A4 (kb 9)) A0 false 4,o A2 (.pick A0 kt A3) 5,m A7 A2 6,G A6 (.move e) A7 false 7,G Aa (.bin .num .eql A6 (kb 10)) A7 false 8,o A9 (.pick A7 kt Aa) 9,m Ac A9 10,G Ad (.move e) Ac false 11,G Af (.bin .num .eql Ad (kb 13)) Ac false 12,o Ae (.pick Ac kt Af) 13,m A8 Ae 14]).seq rt),17, [.tmp A8]⟩
theorem qk:av Try.prog 25=some (.code yf):=by kernel_rfl
def AM:NFun:=⟨(reg [o A8 (.move kf) 0]).seq ((reg [m Ab e 0,b A1 .neq Ab (kb 10) 1,m A8 A1 2]).seq rt),5, [.tmp A8]⟩
theorem qr:av Try.prog 26=some (.code AM):=by kernel_rfl
def zT:NFun:=⟨(reg [o A8 (.move kf) 0]).seq ((reg [m Ab e 0,b A1 .geq Ab (kb 97) 1,m A0 A1 2,G A4 (.move e) A0 true 3,G A3 (.bin .num .leq A4 (kb 122)) A0 true 4,o A2 (.pick A0 A3 kf) 5,m A8 A2 6]).seq rt),9, [.tmp A8]⟩
theorem rh:av Try.prog 27=some (.code zT):=by kernel_rfl
def AB:NFun:=⟨(reg [o A8 (.move kf) 0]).seq ((reg [m Ab e 0,o A1 (.call (F 27) [Ab]) 1,m A0 A1 2,G A4 (.move e) A0 false 3,G A3 (.call (F 32) [A4]) A0 false 4,o A2 (.pick A0 kt A3) 5,m A7 A2 6,G A6 (.move e) A7 false 7,G Aa (.bin .num .eql A6 (kb 95)) A7 false 8,o A9 (.pick A7 kt Aa) 9,m A8 A9 10]).seq rt),13, [.tmp A8]⟩
theorem qL:av Try.prog 28=some (.code AB):=by kernel_rfl
def zf:NFun:=⟨(reg [o A1 (.move kf) 0]).seq ((reg [m A0 e 0,m A4 A5 1,o A3 (.call (F 37) [A0,A4]) 2,b A2 .geq A3 (k 0) 3,m A1 A2 4]).seq rt),9, [.tmp A1]⟩
theorem rz:av Try.prog 29=some (.code zf):=by kernel_rfl
def zw:NFun:=⟨(reg [o e (.move kn) 0]).seq ((reg [o A5 (.buildSlice [z3,z3,z3,z3,z3,z3,z3,z3,z3,z3,z3,z3] 1 12 9 [(0,1,.const (.str [99,101,108,108])),(1,1,.const (.str [116,104,114,101,97,100])),(2,1,.const (.str [114,101,99,111,118,101,114])),(3,1,.const (.str [115,101,116])),(4,1,.const (.str [108,111,97,100])),(5,1,.const (.str [115,116,111,114,101])),(6,1,.const (.str [99,97,115])),(7,1,.const (.str [102,101,110,99,101])),(8,1,.const (.str [111,117,116])),(9,1,.const (.str [105,102])),(10,1,.const (.str [101,108,115,101])),(11,1,.const (.str [119,104,105,108,101]))]) 0,m e A5 1]).seq rt),2, [.tmp e]⟩
theorem qP:av Try.prog 30=some (.code zw):=by kernel_rfl
def yi:NFun:=⟨(reg [o A8 (.move kf) 0]).seq (((reg [m Ab e 0,b A1 .eql Ab (.const (z3)) 1,m A0 A1 2,G A4 (.move e) A0 false 3,G A3 (.lenStr A4) A0 false 4,G A2 (.bin .num .gtr A3 (k 16)) A0 false 5,o A7 (.pick A0 kt A2) 6,m A6 A7 7,G Aa (.move e) A6 false 8,G A9 (.indexStr Aa (k 0)) A6 false 9,G Ac (.call (F 27) [A9]) A6 false 10,G Ad (.un .not Ac) A6 false 11,o Af (.pick A6 kt Ad) 12,m Ae Af 13,G Ag (.call (F 30) []) Ae false 14,G Ah (.move e) Ae false 15,G Ai (.call (F 29) [Ag,Ah]) Ae false 16,o Aj (.pick Ae kt Ai) 17]).seq (cd Aj ((reg [o A8 (.move kf) 0]).seq rt) sk)).seq ((reg [m Ak e 0,o Al (.call (F 24) [Ak,k 0,.const (.fn 28 [])]) 1,m Am e 2,o Ap (.lenStr Am) 3,b An .eql Al Ap 4,m A8 An 5]).seq rt)),26, [.tmp A8]⟩
theorem rp:av Try.prog 31=some (.code yi):=by kernel_rfl
def yP:NFun:=⟨(reg [o A8 (.move kf) 0]).seq ((reg [m Ab e 0,b A1 .geq Ab (kb 48) 1,m A0 A1 2,G A4 (.move e) A0 true 3,G A3 (.bin .num .leq A4 (kb 57)) A0 true 4,o A2 (.pick A0 A3 kf) 5,m A8 A2 6]).seq rt),9, [.tmp A8]⟩
theorem rv:av Try.prog 32=some (.code yP):=by kernel_rfl
def lN:NC:=((reg [b Ak .lss Aj Ai 0]).seq ((cd Ak sk (ex 0)).seq ((bk 1 ((reg [m Al Aj 0,m A0 Al 1]).seq ((reg [m Ap A1 0,o An (.call (F 38) [Ap,ku 10]) 1,m Am An 2,x Au Am 0 3,x Av Am 1 4,m A4 Au 5,m A3 Av 6]).seq ((reg [m Aw A3 0,m Ax e 1,m As A0 2,o Az (.indexStr Ax As) 3,b Ao .sub Az (kb 48) 4,o B0 (.toInt .u64 Ao) 5,o B1 (.call (F 39) [Aw,B0,ku 0]) 6,m Ar B1 7,x B2 Ar 0 8,x At Ar 1 9,m A2 B2 10,m A7 At 11]).seq (((reg [m B3 A4 0,m Aq A7 1,b Ay .add B3 Aq 2,b B6 .gtr Ay (ku 0) 3]).seq (cd B6 ((reg [o A8 (.move (ku 0)) 0,o Ab (.move kf) 1]).seq rt) sk)).seq (reg [m B5 A2 0,m A1 B5 1])))))).seq (reg [b B4 .add Aj (k 1) 0,m Aj B4 1]))))
def yV:NFun:=⟨(reg [o A8 (.move (ku 0)) 0,o Ab (.move kf) 1]).seq (((reg [m A6 e 0,o Aa (.lenStr A6) 1,b A9 .gtr Aa (k 1) 2,m Ac A9 3,G Ad (.move e) Ac true 4,G Af (.indexStr Ad (k 0)) Ac true 5,G Ae (.bin .num .eql Af (kb 48)) Ac true 6,o Ag (.pick Ac Ae kf) 7]).seq (cd Ag ((reg [o A8 (.move (ku 0)) 0,o Ab (.move kf) 1]).seq rt) sk)).seq ((reg [o A1 (.move (ku 0)) 0]).seq (((reg [m Ah e 0,o Ai (.lenStr Ah) 1,o Aj (.move (k 0)) 2]).seq (bk 0 lN.loop)).seq ((reg [m B7 A1 0,m A8 B7 1,o Ab (.move kt) 2]).seq rt)))),45, [.tmp A8,.tmp Ab]⟩
theorem ru:av Try.prog 33=some (.code yV):=by kernel_rfl
def zy:NFun:=⟨(reg [o A1 (.move kf) 0]).seq ((reg [m A0 e 0,m A4 A5 1,o A3 (.call (F 40) [A0,A4]) 2,b A2 .geq A3 (k 0) 3,m A1 A2 4]).seq rt),9, [.tmp A1]⟩
theorem qD:av Try.prog 34=some (.code zy):=by kernel_rfl
def xT:NFun:=⟨(reg [o A8 (.alloc [z0,z1,z2,z3,z4] 70) 0]).seq ((reg [m Ab e 0,o A1 (.call (F 41) [Ab,k 0]) 1,o A0 (.fieldN 0 5 A1) 2,q (.store 5 A8 A0) 3]).seq rt),6, [.cellN A8 5]⟩
theorem rl:av Try.prog 35=some (.code xT):=by kernel_rfl
def zR:NFun:=⟨bk 0 ((reg [m A3 e 0,o A2 (.call (F 13) [A3,k 4,.const (.str [115,101,116])]) 1,m A4 A2 2]).seq (cd A4 ((reg [m A7 A5 0,m A6 A5 1,m Aa e 2,o A9 (.call (F 15) [Aa,k 1]) 3,o Ac (.field1 1 A9) 4,n Ad A7 5,f 0 Af Ad 6,q (.store 1 Af (k 0)) 7,n Ae A6 8,f 2 Ag Ae 9,q (.store 1 Ag Ac) 10]).seq (reg [m Ah A5 0,m Ai e 1,o Aj (.call (F 35) [Ai]) 2,n Ak Ah 3,f 9 Al Ak 4,q (.store 5 Al Aj) 5])) ((reg [m Ap e 0,o An (.call (F 13) [Ap,k 4,.const (.str [108,111,97,100])]) 1,m Am An 2]).seq (cd Am ((reg [m Au A5 0,m Av A5 1,m Ar e 2,o Aw (.call (F 15) [Ar,k 1]) 3,o Ax (.field1 1 Aw) 4,n As Au 5,f 0 Az As 6,q (.store 1 Az (k 1)) 7,n Ao Av 8,f 2 B0 Ao 9,q (.store 1 B0 Ax) 10]).seq (reg [m B1 e 0,m B2 A5 1,o At (.call (F 42) [B1,B2]) 2])) ((reg [m Aq e 0,o Ay (.call (F 13) [Aq,k 4,.const (.str [115,116,111,114,101])]) 1,m B3 Ay 2]).seq (cd B3 ((reg [m B6 A5 0,n B5 B6 1,f 0 B4 B5 2,q (.store 1 B4 (k 2)) 3]).seq ((reg [m B7 e 0,m B8 A5 1,o B9 (.call (F 42) [B7,B8]) 2]).seq (reg [m Ba A5 0,m Bd e 1,o Bb (.call (F 35) [Bd]) 2,n Be Ba 3,f 9 Bi Be 4,q (.store 5 Bi Bb) 5]))) ((reg [m Bj e 0,o Bl (.call (F 13) [Bj,k 4,.const (.str [99,97,115])]) 1,m Bk Bl 2]).seq (cd Bk ((reg [m Bm A5 0,m Bn A5 1,m Bo e 2,o Bp (.call (F 15) [Bo,k 1]) 3,o Bq (.field1 1 Bp) 4,n Br Bm 5,f 0 Bs Br 6,q (.store 1 Bs (k 3)) 7,n Bt Bn 8,f 2 Bu Bt 9,q (.store 1 Bu Bq) 10]).seq ((reg [m Bv e 0,m Bw A5 1,o C8 (.call (F 42) [Bv,Bw]) 2]).seq ((reg [m Bx A5 0,m Bc e 1,o Bf (.call (F 35) [Bc]) 2,n By Bx 3,f 9 Bz By 4,q (.store 5 Bz Bf) 5]).seq (reg [m C0 A5 0,m C1 e 1,o Bh (.call (F 35) [C1]) 2,n C2 C0 3,f 14 C3 C2 4,q (.store 5 C3 Bh) 5])))) ((reg [m C5 e 0,o C6 (.call (F 13) [C5,k 4,.const (.str [102,101,110,99,101])]) 1,m C4 C6 2]).seq (cd C4 (reg [m C7 A5 0,n Ca C7 1,f 0 Cb Ca 2,q (.store 1 Cb (k 4)) 3]) ((reg [m Bg e 0,o Cd (.call (F 13) [Bg,k 4,.const (.str [111,117,116])]) 1,m Cc Cd 2]).seq (cd Cc (reg [m Ce A5 0,m Cf A5 1,m Cg e 2,o Ch (.call (F 35) [Cg]) 3,n Ci Ce 4,f 0 Cj Ci 5,q (.store 1 Cj (k 5)) 6,n Ck Cf 7,f 9 Cn Ck 8,q (.store 5 Cn Ch) 9]) (reg [m A1 e 0,o A0 (.call (F 18) [A1,k 2]) 1]))))))))))))),94, []⟩
theorem qJ:av Try.prog 36=some (.code zR):=by kernel_rfl
def rF:NC:=((reg [b A7 .lss A2 A3 0]).seq ((cd A7 sk (ex 0)).seq ((bk 1 ((reg [m A6 A2 0,m A0 A6 1]).seq ((reg [m Aa A5 0,m A9 e 1,m Ac A0 2,o Ad (.indexSlc 1 A9 Ac) 3,l Af Ad 4,b Ae .eql Aa Af 5]).seq (cd Ae ((reg [m Ag A0 0,m A1 Ag 1]).seq rt) sk)))).seq (reg [b Ah .add A2 (k 1) 0,m A2 Ah 1]))))
def zj:NFun:=⟨(reg [o A1 (.move (k 0)) 0]).seq (((reg [m A4 e 0,L A3 A4 1,o A2 (.move (k 0)) 2]).seq (bk 0 rF.loop)).seq ((reg [o A1 (.move (k (-1))) 0]).seq rt)),19, [.tmp A1]⟩
theorem rj:av Try.prog 37=some (.code zj):=by kernel_rfl
def yq:NFun:=⟨(reg [o A1 (.move (ku 0)) 0,o A0 (.move (ku 0)) 1]).seq ((reg [m Ad e 0,b Af .and Ad (ku 4294967295) 1,m A4 Af 2]).seq ((reg [m Ae e 0,b Ag .shr Ae (ku 32) 1,m A3 Ag 2]).seq ((reg [m Ah A5 0,b Ai .and Ah (ku 4294967295) 1,m A2 Ai 2]).seq ((reg [m Aj A5 0,b Ak .shr Aj (ku 32) 1,m A7 Ak 2]).seq ((reg [m Al A4 0,m Am A2 1,b Ap .mul Al Am 2,m A6 Ap 3]).seq ((reg [m An A3 0,m Au A2 1,b Av .mul An Au 2,m Ar A6 3,b Aw .shr Ar (ku 32) 4,b Ax .add Av Aw 5,m Aa Ax 6]).seq ((reg [m As Aa 0,b Az .and As (ku 4294967295) 1,m A9 Az 2]).seq ((reg [m Ao Aa 0,b B0 .shr Ao (ku 32) 1,m Ac B0 2]).seq ((reg [m B1 A9 0,m B2 A4 1,m At A7 2,b B3 .mul B2 At 3,b Aq .add B1 B3 4,m A9 Aq 5]).seq ((reg [m Ay A3 0,m B6 A7 1,b B5 .mul Ay B6 2,m B4 Ac 3,b B7 .add B5 B4 4,m B8 A9 5,b B9 .shr B8 (ku 32) 6,b Ba .add B7 B9 7,m A1 Ba 8]).seq ((reg [m Bd e 0,m Bb A5 1,b Be .mul Bd Bb 2,m A0 Be 3]).seq rt))))))))))),51, [.tmp A1,.tmp A0]⟩
theorem qI:av Try.prog 38=some (.code yq):=by kernel_rfl
def yz:NFun:=⟨(reg [o A1 (.move (k 0)) 0]).seq ((reg [m A0 e 0,m A4 A5 1,o A3 (.call (F 43) [A0,A4]) 2,m A1 A3 3]).seq rt),8, [.tmp A1]⟩
theorem qj:av Try.prog 40=some (.code yz):=by kernel_rfl
def rm:NC:=(((reg [m Ac A4 0,b Ad .neq Ac (kb 0) 1]).seq (cd Ad sk (ex 0))).seq ((bk 1 ((reg [m Ag e 0,n Ah Ag 1,f 1 Ai Ah 2,l Aj Ai 3,b Ak .add Aj (k 1) 4,n Al Ag 5,f 1 Am Al 6,q (.store 1 Am Ak) 7]).seq ((reg [m Ap e 0,m An A5 1,o Au (.call (F 44) [Ap,An]) 2,o A3 (.alloc [z0,z1,z2,z3,z4,z0] 92) 3,q (.store 6 A3 Au) 4]).seq ((reg [m Av A4 0,f 0 Ar A0 1,o Aw (.loadN 5 Ar) 2,f 0 Ax A3 3,o As (.loadN 5 Ax) 4,o Az (.buildSlice [z0,z1,z2,z3,z4,z0,z1,z2,z3,z4] 5 2 70 [(0,5,Aw),(5,5,As)]) 5,o Ao (.build [z0,z1,z2,z3,z4] [(0,1,k 2),(2,1,Av),(4,1,Az)]) 6,f 5 B0 A0 7,l B1 B0 8,f 5 B2 A3 9,l At B2 10,o B3 (.minmax true [B1,At]) 11,b Aq .add (k 1) B3 12,o Ay (.build [z0,z1,z2,z3,z4,z0] [(0,5,Ao),(5,1,Aq)]) 13,q (.store 6 A0 Ay) 14]).seq ((reg [f 5 B6 A0 0,l B5 B6 1,b B4 .gtr B5 (k 30) 2]).seq (cd B4 (reg [m B7 e 0,o B8 (.call (F 18) [B7,k 11]) 1]) sk)))))).seq (reg [m Af e 0,o Ae (.call (F 45) [Af]) 1,m A4 Ae 2])))
def zk:NFun:=⟨(reg [o A1 (.alloc [z0,z1,z2,z3,z4,z0] 92) 0]).seq ((reg [m A2 e 0,m A7 A5 1,o A6 (.call (F 44) [A2,A7]) 2,o A0 (.alloc [z0,z1,z2,z3,z4,z0] 92) 3,q (.store 6 A0 A6) 4]).seq (((reg [m Aa e 0,o A9 (.call (F 45) [Aa]) 1,m A4 A9 2]).seq (bk 0 rm.loop)).seq ((reg [o B9 (.loadN 6 A0) 0,q (.store 6 A1 B9) 1]).seq rt))),47, [.cellN A1 6]⟩
theorem qp:av Try.prog 41=some (.code zk):=by kernel_rfl
def zx:NFun:=⟨(reg [m A1 A5 0,m A0 e 1,o A4 (.call (F 15) [A0,k 1]) 2,o A3 (.field1 1 A4) 3,n A2 A1 4,f 3 A7 A2 5,q (.store 1 A7 A3) 6]).seq ((reg [m A6 e 0,o Aa (.call (F 13) [A6,k 3,.const (.str [91])]) 1]).seq (cd Aa ((reg [m A9 A5 0,m Ac e 1,o Ad (.call (F 35) [Ac]) 2,n Af A9 3,f 4 Ae Af 4,q (.store 5 Ae Ad) 5]).seq (reg [m Ag e 0,o Ah (.call (F 22) [Ag,.const (.str [93])]) 1])) sk)),19, []⟩
theorem qW:av Try.prog 42=some (.code zx):=by kernel_rfl
def vH:NC:=(((reg [m Bo A2 0,m Bp A7 1,b Bq .lss Bo Bp 2]).seq (cd Bq sk (ex 1))).seq (bk 2 (((reg [m Br e 0,m Bs A2 1,o Bt (.indexStr Br Bs) 2,m Bu A4 3,b Bv .neq Bt Bu 4]).seq (cd Bv ((reg [m Bw e 0,m C8 A2 1,b Bx .add C8 (k 1) 2,m Bc A7 3,o Bf (.sliceStr Bw (some Bx) (some Bc)) 4,m By A4 5,o Bz (.call (F 46) [Bf,By]) 6,m Aa Bz 7]).seq (((reg [m C0 Aa 0,b C1 .lss C0 (k 0) 1]).seq (cd C1 ((reg [o A1 (.move (k (-1))) 0]).seq rt) sk)).seq (reg [m Bh A2 0,m C2 Aa 1,b C3 .add C2 (k 1) 2,b C4 .add Bh C3 3,m A2 C4 4]))) sk)).seq (((reg [m C5 e 0,m C6 A2 1,b C7 .add C6 (k 1) 2,o Ca (.indexStr C5 C7) 3,m Cb A3 4,b Cc .eql Ca Cb 5,m Bg Cc 6,G Cd (.move e) Bg true 7,G Ce (.move A2) Bg true 8,G Cf (.move A2) Bg true 9,G Cg (.move A0) Bg true 10,G Ch (.bin .num .add Cf Cg) Bg true 11,G Ci (.sliceStr Cd (some Ce) (some Ch)) Bg true 12,G Cj (.move A5) Bg true 13,G Ck (.bin .num .eql Ci Cj) Bg true 14,o Cn (.pick Bg Ck kf) 15]).seq (cd Cn ((reg [m e.a.a.c.b A2 0,m A1 e.a.a.c.b 1]).seq rt) sk)).seq ((reg [m e.a.a.c.c A2 0,b e.a.a.c.f .add e.a.a.c.c (k 1) 1,m A2 e.a.a.c.f 2]).seq ((reg [m e.a.a.f.a A6 0,b e.a.a.f.b .add e.a.a.f.a (k 1) 1,m A6 e.a.a.f.b 2]).seq ((reg [m e.a.a.f.c A0 0,o e.a.a.f.f (.fail) 1,b e.a.b.a.a .leq e.a.a.f.c e.a.a.f.f 2,m Cl e.a.b.a.a 3,G e.a.b.a.c (.move A6) Cl true 4,G e.a.b.a.f (.move A2) Cl true 5,G e.a.b.b.a (.call (F 48) [e.a.b.a.f]) Cl true 6,G e.a.b.b.b (.bin .num .gtr e.a.b.a.c e.a.b.b.a) Cl true 7,o e.a.b.b.c (.pick Cl e.a.b.b.b kf) 8]).seq (cd e.a.b.b.c ((reg [m e.a.b.b.f e 0,m e.a.b.c.a A2 1,o e.a.b.c.b (.sliceStr e.a.b.b.f (some e.a.b.c.a) none) 2,m e.a.b.c.c A5 3,o e.a.b.c.f (.call (F 47) [e.a.b.c.b,e.a.b.c.c]) 4,m A9 e.a.b.c.f 5]).seq (((reg [m e.a.b.f.a A9 0,b e.a.b.f.b .geq e.a.b.f.a (k 0) 1]).seq (cd e.a.b.f.b ((reg [m e.a.b.f.c A9 0,m e.a.b.f.f A2 1,b e.a.c.a.a .add e.a.b.f.c e.a.b.f.f 2,m A1 e.a.c.a.a 3]).seq rt) sk)).seq ((reg [o A1 (.move (k (-1))) 0]).seq rt))) ((reg [m e.a.c.a.b A0 0,o e.a.c.a.c (.fail) 1,b e.a.c.a.f .gtr e.a.c.a.b e.a.c.a.c 2,m C9 e.a.c.a.f 3,G e.a.c.b.b (.move A6) C9 true 4,G e.a.c.b.c (.move A2) C9 true 5,G e.a.c.b.f (.bin .num .shr e.a.c.b.c (ku 4)) C9 true 6,G e.a.c.c.a (.bin .num .add (k 4) e.a.c.b.f) C9 true 7,G e.a.c.c.b (.bin .num .geq e.a.c.b.b e.a.c.c.a) C9 true 8,o e.a.c.c.c (.pick C9 e.a.c.c.b kf) 9,m Cm e.a.c.c.c 10,G e.a.c.f.a (.move A2) Cm true 11,G e.a.c.f.b (.move A7) Cm true 12,G e.a.c.f.c (.bin .num .lss e.a.c.f.a e.a.c.f.b) Cm true 13,o e.a.c.f.f (.pick Cm e.a.c.f.c kf) 14]).seq (cd e.a.c.f.f ((reg [m e.a.f.a.a e 0,m e.a.f.a.b A2 1,o e.a.f.a.c (.sliceStr e.a.f.a.a (some e.a.f.a.b) none) 2,m e.a.f.a.f A5 3,o e.a.f.b.a (.call (F 49) [e.a.f.a.c,e.a.f.a.f]) 4,m Ac e.a.f.b.a 5]).seq (((reg [m e.a.f.b.b Ac 0,b e.a.f.b.c .lss e.a.f.b.b (k 0) 1]).seq (cd e.a.f.b.c ((reg [o A1 (.move (k (-1))) 0]).seq rt) sk)).seq ((reg [m e.a.f.b.f A2 0,m e.a.f.c.a Ac 1,b e.a.f.c.b .add e.a.f.b.f e.a.f.c.a 2,m A1 e.a.f.c.b 3]).seq rt))) sk))))))))))
def y9:NFun:=⟨(reg [o A1 (.move (k 0)) 0]).seq ((reg [m Ad A5 0,o Af (.lenStr Ad) 1,m A0 Af 2]).seq ((bk 0 ((reg [m Ag A0 0,b Ah .eql Ag (k 0) 1,m Ai Ah 2,G Aj (.move A5) Ai false 3,G Ak (.move e) Ai false 4,G Al (.bin .num .eql Aj Ak) Ai false 5,o Am (.pick Ai kt Al) 6,m Ae Am 7]).seq (cd Ae ((reg [o A1 (.move (k 0)) 0]).seq rt) ((reg [m An A0 0,b Au .eql An (k 1) 1,m Ap Au 2]).seq (cd Ap ((reg [m Av e 0,m Ar A5 1,o Aw (.indexStr Ar (k 0)) 2,o Ax (.call (F 46) [Av,Aw]) 3,m A1 Ax 4]).seq rt) ((reg [m Az A0 0,m Ao e 1,o B0 (.lenStr Ao) 2,b B1 .geq Az B0 3,m As B1 4]).seq (cd As ((reg [o A1 (.move (k (-1))) 0]).seq rt) ((reg [m At A0 0,o B3 (.fail) 1,b Aq .leq At B3 2,m Ay Aq 3,G B6 (.move e) Ay true 4,G B5 (.lenStr B6) Ay true 5,G B4 (.bin .num .leq B5 (k 64)) Ay true 6,o B7 (.pick Ay B4 kf) 7,m B2 B7 8]).seq (cd B2 ((reg [m B8 e 0,m B9 A5 1,o Ba (.call (F 47) [B8,B9]) 2,m A1 Ba 3]).seq rt) sk))))))))).seq ((reg [m Bd A5 0,o Bb (.indexStr Bd (k 0)) 1,m A4 Bb 2]).seq ((reg [m Be A5 0,o Bi (.indexStr Be (k 1)) 1,m A3 Bi 2]).seq ((reg [o A2 (.move (k 0)) 0]).seq ((reg [m Bk e 0,o Bj (.lenStr Bk) 1,m Bl A0 2,b Bm .sub Bj Bl 3,b Bn .add Bm (k 1) 4,m A7 Bn 5]).seq ((reg [o A6 (.move (k 0)) 0]).seq ((bk 1 vH.loop).seq ((reg [o A1 (.move (k (-1))) 0]).seq rt))))))))),143, [.tmp A1]⟩
theorem qy:av Try.prog 43=some (.code y9):=by kernel_rfl
def xX:NFun:=⟨(reg [o A1 (.alloc [z0,z1,z2,z3,z4,z0] 92) 0]).seq (((reg [m A3 A5 0,b A2 .gtr A3 (k 29) 1]).seq (cd A2 (reg [m A7 e 0,o A6 (.call (F 18) [A7,k 11]) 1]) sk)).seq (((reg [m Aa e 0,o A9 (.call (F 13) [Aa,k 3,.const (.str [40])]) 1]).seq (cd A9 ((reg [m Ac e 0,m Ad A5 1,b Af .add Ad (k 1) 2,o Ae (.call (F 41) [Ac,Af]) 3,o A0 (.alloc [z0,z1,z2,z3,z4,z0] 92) 4,q (.store 6 A0 Ae) 5]).seq ((reg [m Ag e 0,o Ah (.call (F 22) [Ag,.const (.str [41])]) 1]).seq ((reg [o Ai (.loadN 6 A0) 0,q (.store 6 A1 Ai) 1]).seq rt))) sk)).seq (((reg [m Aj e 0,o Ak (.call (F 12) [Aj]) 1,o A4 (.alloc [z0,z3,z1,z0] 44) 2,q (.store 4 A4 Ak) 3]).seq ((reg [f 0 Al A4 0,l Am Al 1,b Ap .eql Am (k 2) 2]).seq (cd Ap ((reg [m An e 0,n Au An 1,f 1 Av Au 2,l Ar Av 3,b Aw .add Ar (k 1) 4,n Ax An 5,f 1 As Ax 6,q (.store 1 As Aw) 7]).seq ((reg [f 2 Az A4 0,l Ao Az 1,o B0 (.build [z0,z1,z2,z3,z4] [(0,1,k 0),(1,1,Ao)]) 2,o B1 (.build [z0,z1,z2,z3,z4,z0] [(0,5,B0),(5,1,k 1)]) 3,q (.store 6 A1 B1) 4]).seq rt)) sk))).seq ((reg [m B2 e 0,o At (.call (F 15) [B2,k 1]) 1,o B3 (.field1 1 At) 2,o Aq (.build [z0,z1,z2,z3,z4] [(0,1,k 1),(3,1,B3)]) 3,o Ay (.build [z0,z1,z2,z3,z4,z0] [(0,5,Aq),(5,1,k 1)]) 4,q (.store 6 A1 Ay) 5]).seq rt)))),41, [.cellN A1 6]⟩
theorem qV:av Try.prog 44=some (.code xX):=by kernel_rfl
def zd:NFun:=⟨(reg [o A8 (.move (kb 0)) 0]).seq ((reg [m A1 e 0,o A0 (.call (F 12) [A1]) 1,o Ab (.alloc [z0,z3,z1,z0] 44) 2,q (.store 4 Ab A0) 3]).seq (((reg [f 0 A4 Ab 0,l A3 A4 1,b A2 .neq A3 (k 3) 2,m A7 A2 3,G A6 (.fieldAddr 1 Ab) A7 false 4,G Aa (.load1 A6) A7 false 5,G A9 (.lenStr Aa) A7 false 6,G Ac (.bin .num .neq A9 (k 1)) A7 false 7,o Ad (.pick A7 kt Ac) 8,m Af Ad 9,G Ae (.fieldAddr 1 Ab) Af false 10,G Ag (.load1 Ae) Af false 11,G Ah (.call (F 34) [.const (.str [43,45,42,38,61,60]),Ag]) Af false 12,G Ai (.un .not Ah) Af false 13,o Aj (.pick Af kt Ai) 14]).seq (cd Aj ((reg [o A8 (.move (kb 0)) 0]).seq rt) sk)).seq ((reg [f 1 Ak Ab 0,l Al Ak 1,o Am (.indexStr Al (k 0)) 2,m A8 Am 3]).seq rt))),24, [.tmp A8]⟩
theorem qR:av Try.prog 45=some (.code zd):=by kernel_rfl
def yk:NFun:=⟨(reg [o A1 (.move (k 0)) 0]).seq ((reg [m A0 e 0,m A4 A5 1,o A3 (.call (F 50) [A0,A4]) 2,m A1 A3 3]).seq rt),8, [.tmp A1]⟩
theorem rr:av Try.prog 46=some (.code yk):=by kernel_rfl
def DC:NFun:=⟨(reg [o A8 (.move (k 0)) 0]).seq ((reg [m Ab e 0,b A1 .add Ab (k 16) 1,b A0 .quo A1 (k 8) 2,m A8 A0 3]).seq rt),6, [.tmp A8]⟩
theorem vK:av Try.prog 48=some (.code DC):=by kernel_rfl
def wP:NC:=(((reg [m Ah A7 0,m Ai A3 1,b Aj .lss Ah Ai 2]).seq (cd Aj sk (ex 0))).seq ((bk 1 (reg [m Am A2 0,b Ap .mul Am (.const (.int .u32 (.lit 16777619))) 1,m An e 2,m Au A7 3,o Av (.indexStr An Au) 4,o Ar (.toInt .u32 Av) 5,b Aw .add Ap Ar 6,m A2 Aw 7])).seq (reg [m Ak A7 0,b Al .add Ak (k 1) 1,m A7 Al 2])))
def wI:NC:=(((reg [m B6 A6 0,m B5 e 1,o B4 (.lenStr B5) 2,b B7 .lss B6 B4 3]).seq (cd B7 sk (ex 2))).seq (bk 3 ((reg [m B8 A2 0,b B9 .mul B8 (.const (.int .u32 (.lit 16777619))) 1,m A2 B9 2]).seq ((reg [m Ba A2 0,m Bd e 1,m Bb A6 2,o Be (.indexStr Bd Bb) 3,o Bi (.toInt .u32 Be) 4,b Bk .add Ba Bi 5,m A2 Bk 6]).seq ((reg [m Bj A2 0,m Bl A4 1,m Bm e 2,m Bn A6 3,m Bo A3 4,b Bp .sub Bn Bo 5,o Bq (.indexStr Bm Bp) 6,o Br (.toInt .u32 Bq) 7,b Bs .mul Bl Br 8,b Bt .sub Bj Bs 9,m A2 Bt 10]).seq ((reg [m Bu A6 0,b Bv .add Bu (k 1) 1,m A6 Bv 2]).seq ((reg [m Bw A2 0,m C8 A0 1,b Bx .eql Bw C8 2,m Bc Bx 3,G Bf (.move e) Bc true 4,G By (.move A6) Bc true 5,G Bz (.move A3) Bc true 6,G C0 (.bin .num .sub By Bz) Bc true 7,G C1 (.move A6) Bc true 8,G Bh (.sliceStr Bf (some C0) (some C1)) Bc true 9,G C2 (.move A5) Bc true 10,G C3 (.bin .num .eql Bh C2) Bc true 11,o C4 (.pick Bc C3 kf) 12]).seq (cd C4 ((reg [m C5 A6 0,m C6 A3 1,b C7 .sub C5 C6 2,m A1 C7 3]).seq rt) sk))))))))
def BS:NFun:=⟨(reg [o A1 (.move (k 0)) 0]).seq ((reg [m A9 A5 0,o Ac (.call (F 51) [A9]) 1,m Aa Ac 2,x Ad Aa 0 3,x Af Aa 1 4,m A0 Ad 5,m A4 Af 6]).seq ((reg [m Ae A5 0,o Ag (.lenStr Ae) 1,m A3 Ag 2]).seq ((reg [o A2 (.move (.const (.int .u32 (.lit 0)))) 0]).seq (((reg [o A7 (.move (k 0)) 0]).seq (bk 0 wP.loop)).seq (((reg [m Ax A2 0,m As A0 1,b Az .eql Ax As 2,m Ao Az 3,G B0 (.move e) Ao true 4,G B1 (.move A3) Ao true 5,G B2 (.sliceStr B0 none (some B1)) Ao true 6,G At (.move A5) Ao true 7,G B3 (.bin .num .eql B2 At) Ao true 8,o Aq (.pick Ao B3 kf) 9]).seq (cd Aq ((reg [o A1 (.move (k 0)) 0]).seq rt) sk)).seq (((reg [m Ay A3 0,m A6 Ay 1]).seq (bk 2 wI.loop)).seq ((reg [o A1 (.move (k (-1))) 0]).seq rt))))))),81, [.tmp A1]⟩
theorem wU:av Try.prog 49=some (.code BS):=by kernel_rfl
def wL:NC:=(((reg [m A7 A0 0,m A6 e 1,o Aa (.lenStr A6) 2,b A9 .lss A7 Aa 3]).seq (cd A9 sk (ex 0))).seq ((bk 1 (reg [m Af A1 0,b Ae .mul Af (.const (.int .u32 (.lit 16777619))) 1,m Ag e 2,m Ah A0 3,o Ai (.indexStr Ag Ah) 4,o Aj (.toInt .u32 Ai) 5,b Ak .add Ae Aj 6,m A1 Ak 7])).seq (reg [m Ac A0 0,b Ad .add Ac (k 1) 1,m A0 Ad 2])))
def w6:NC:=(((reg [m Ap A2 0,b An .gtr Ap (k 0) 1]).seq (cd An sk (ex 2))).seq ((bk 3 (((reg [m Ar A2 0,b Aw .and Ar (k 1) 1,b Ax .neq Aw (k 0) 2]).seq (cd Ax (reg [m As A4 0,m Az A3 1,b Ao .mul As Az 2,m A4 Ao 3]) sk)).seq (reg [m B0 A3 0,m B1 A3 1,b B2 .mul B0 B1 2,m A3 B2 3]))).seq (reg [m Au A2 0,b Av .shr Au (ku 1) 1,m A2 Av 2])))
def DJ:NFun:=⟨(reg [o A8 (.move (.const (.int .u32 (.lit 0)))) 0,o Ab (.move (.const (.int .u32 (.lit 0)))) 1]).seq ((reg [o A1 (.move (.const (.int .u32 (.lit 0)))) 0]).seq (((reg [o A0 (.move (k 0)) 0]).seq (bk 0 wL.loop)).seq ((reg [o A4 (.move (.const (.int .u32 (.lit 1)))) 0,o A3 (.move (.const (.int .u32 (.lit 16777619)))) 1]).seq (((reg [m Al e 0,o Am (.lenStr Al) 1,m A2 Am 2]).seq (bk 2 w6.loop)).seq ((reg [m At A1 0,m B3 A4 1,m A8 At 2,m Ab B3 3]).seq rt))))),39, [.tmp A8,.tmp Ab]⟩
theorem xt:av Try.prog 51=some (.code DJ):=by kernel_rfl
end
end LX
