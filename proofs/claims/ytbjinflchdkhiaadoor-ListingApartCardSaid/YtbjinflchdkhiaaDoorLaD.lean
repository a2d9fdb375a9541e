/- A machine that runs the given program with memory and order of evaluation taken apart, and what it shows of the law ListingApart: part 4. -/
import Derived.Test.YtbjinflchdkhiaaDoorProg
import Derived.KernelRfl
import Derived.MakeChecks
import Derived.Lib.LaidTab
import Derived.Test.YtbjinflchdkhiaaDoorRows
import Derived.Shelf.Strconv.Itoa3
import Derived.Shelf.Strconv.SyntaxError
import Derived.Shelf.Strconv.RangeError
import Derived.Shelf.Strconv.AtoiAll
import Derived.Test.YtbjinflchdkhiaaDoorLaC
set_option linter.unusedSimpArgs false
set_option linter.unusedVariables false
set_option linter.unusedSectionVars false
set_option linter.defProp false
namespace LI
open Go Nm Go.Proofs
open Nm.D4 (e)
open Nm.NC (reg regD)
open Nm.C
noncomputable def Ef:NFun:=⟨(reg [o e.a (.box (t e) 23) 0,o e.b (.move kf) 1]).seq ((reg [o e.a.c (.call (F 8) []) 0,m e.c e.a.c 1]).seq ((reg [o e.a.f (.loadN 7 (t e.a)) 0,o e.b.a (.call (F 9) [t e.a.f]) 1,m e.f e.b.a 2]).seq (((reg [m e.b.b e.c 0,o e.b.c (.un .not (t e.b.b)) 1,m e.b.f e.b.c 2,G e.c.a (.move (t e.f)) e.b.f false 3,G e.c.b (.loadN 7 (t e.a)) e.b.f false 4,G e.c.c (.call (F 10) [t e.c.b]) e.b.f false 5,G e.c.f (.bin .num .neq (t e.c.a) (t e.c.c)) e.b.f false 6,o e.f.a (.pick (t e.b.f) kt (t e.c.f)) 7]).seq (NC.cond (t e.f.a) ((reg [o e.b (.move kf) 0]).seq NC.ret) NC.skip)).seq (((reg [o e.f.b (.loadN 7 (t e.a)) 0,o e.f.c (.call (F 11) [t e.f.b]) 1,o e.f.f (.un .not (t e.f.c)) 2]).seq (NC.cond (t e.f.f) ((reg [m e.a.a.a e.f 0,b e.a.a.b .eql (t e.a.a.a) (.const (.str [])) 1,m e.b e.a.a.b 2]).seq NC.ret) NC.skip)).seq ((reg [m e.a.a.f e.f 0,o e.a.b.a (.call (F 12) [t e.a.a.f]) 1,m e.a.a.c e.a.b.a 2,x e.a.b.b e.a.a.c 0 3,x e.a.b.c e.a.a.c 1 4,o e.a.a (.alloc [.int .i64 (.lit 0),.int .i64 (.lit 0),.int .i64 (.lit 0),.int .i64 (.lit 0),.int .i64 (.lit 0),.int .i64 (.lit 0),.int .i64 (.lit 0)] 23) 5,q (.store 7 (t e.a.a) (t e.a.b.b)) 6,m e.a.b e.a.b.c 7]).seq ((reg [m e.a.b.f e.a.b 0,o e.a.c.a (.call (F 13) [t e.a.b.f]) 1,b e.a.c.b .eql (t e.a.c.a) (k 0) 2,m e.a.c.c e.a.c.b 3,G e.a.c.f (.loadN 7 (t e.a.a)) e.a.c.c true 4,G e.a.f.a (.loadN 7 (t e.a)) e.a.c.c true 5,G e.a.f.b (.eqAgg false [.int,.int,.int,.int,.int,.int,.int] (t e.a.c.f) (t e.a.f.a)) e.a.c.c true 6,o e.a.f.c (.pick (t e.a.c.c) (t e.a.f.b) kf) 7,m e.b e.a.f.c 8]).seq NC.ret)))))),36, [.tmp e.b]⟩
theorem zM:ak Tryd.prog 3=some (.code Ef):=by kernel_rfl
noncomputable def Eb:NFun:=⟨(reg [o e.b (.move kf) 0]).seq ((reg [o e.a.b (.call (F 8) []) 0,m e.c e.a.b 1]).seq (((reg [m e.a.c e.c 0,o e.a.f (.un .not (t e.a.c)) 1,m e.b.a e.a.f 2,G e.b.b (.move (t e)) e.b.a false 3,G e.b.c (.lenStr (t e.b.b)) e.b.a false 4,G e.b.f (.bin .num .gtr (t e.b.c) (k 100)) e.b.a false 5,o e.c.a (.pick (t e.b.a) kt (t e.b.f)) 6]).seq (NC.cond (t e.c.a) ((reg [m e.c.b e.c 0,m e.b e.c.b 1]).seq NC.ret) NC.skip)).seq ((reg [m e.c.f e 0,o e.f.a (.call (F 12) [t e.c.f]) 1,m e.c.c e.f.a 2,x e.f.b e.c.c 0 3,x e.f.c e.c.c 1 4,o e.f (.alloc [.int .i64 (.lit 0),.int .i64 (.lit 0),.int .i64 (.lit 0),.int .i64 (.lit 0),.int .i64 (.lit 0),.int .i64 (.lit 0),.int .i64 (.lit 0)] 23) 5,q (.store 7 (t e.f) (t e.f.b)) 6,m e.a.a e.f.c 7]).seq (((reg [m e.f.f e.a.a 0,o e.a.a.a (.call (F 13) [t e.f.f]) 1,b e.a.a.b .neq (t e.a.a.a) (k 0) 2]).seq (NC.cond (t e.a.a.b) ((reg [m e.a.a.c e.a.a 0,o e.a.a.f (.call (F 13) [t e.a.a.c]) 1,b e.a.b.a .eql (t e.a.a.f) (k 2) 2,m e.a.b.b e.a.b.a 3,G e.a.b.c (.loadN 7 (t e.f)) e.a.b.b true 4,G e.a.b.f (.build [.int .i64 (.lit 0),.int .i64 (.lit 0),.int .i64 (.lit 0),.int .i64 (.lit 0),.int .i64 (.lit 0),.int .i64 (.lit 0),.int .i64 (.lit 0)] []) e.a.b.b true 5,G e.a.c.a (.eqAgg false [.int,.int,.int,.int,.int,.int,.int] (t e.a.b.c) (t e.a.b.f)) e.a.b.b true 6,o e.a.c.b (.pick (t e.a.b.b) (t e.a.c.a) kf) 7,m e.b e.a.c.b 8]).seq NC.ret) NC.skip)).seq ((reg [o e.a.c.c (.loadN 7 (t e.f)) 0,o e.a.c.f (.call (F 10) [t e.a.c.c]) 1,m e.a.f.a e 2,b e.a.f.b .eql (t e.a.c.f) (t e.a.f.a) 3,m e.a.f.c e.a.f.b 4,G e.a.f.f (.loadN 7 (t e.f)) e.a.f.c true 5,G e.b.a.a (.call (F 11) [t e.a.f.f]) e.a.f.c true 6,o e.b.a.b (.pick (t e.a.f.c) (t e.b.a.a) kf) 7,m e.b e.b.a.b 8]).seq NC.ret))))),39, [.tmp e.b]⟩
theorem Ag:ak Tryd.prog 4=some (.code Eb):=by kernel_rfl
noncomputable def Ee:NFun:=⟨(reg [o e.b (.move kf) 0]).seq ((reg [o e.a.f (.call (F 8) []) 0,m e.c e.a.f 1]).seq ((reg [o e.b.a (.buildSlice [.str [],.str [],.str [],.str [],.str [],.str [],.str [],.str [],.str [],.str [],.str [],.str [],.str [],.str [],.str [],.str [],.str [],.str [],.str [],.str [],.str [],.str [],.str [],.str [],.str [],.str []] 1 26 9 [(0,1,.const (.str [])),(1,1,.const (.str [110,111,112,32])),(2,1,.const (.str [32,110,111,112])),(3,1,.const (.str [110,111,112,32,48])),(4,1,.const (.str [78,111,112])),(5,1,.const (.str [109,111,118,122,32,49,32,50])),(6,1,.const (.str [109,111,118,122,32,49,32,50,32,48,32,48])),(7,1,.const (.str [109,111,118,122,32,49,32,54,53,53,51,54,32,48])),(8,1,.const (.str [109,111,118,122,32,48,49,32,50,32,48])),(9,1,.const (.str [109,111,118,122,32,49,32,32,50,32,48])),(10,1,.const (.str [97,100,100,32,49,32,50,32,51,50])),(11,1,.const (.str [98,32,45,48])),(12,1,.const (.str [98,32,43,49])),(13,1,.const (.str [98,32,45,49])),(14,1,.const (.str [98])),(15,1,.const (.str [98,99,32,50,32,53])),(16,1,.const (.str [98,99,32,49,49,32,45,53])),(17,1,.const (.str [108,100,114,32,49,32,50,56,32,52,48,57,54])),(18,1,.const (.str [108,100,114,32,49,32,50,56,32,52,48,57,53])),(19,1,.const (.str [115,116,120,114,32,51,32,49,32,50])),(20,1,.const (.str [99,118,97,112,32,51,49])),(21,1,.const (.str [99,118,97,112,32,51,50])),(22,1,.const (.str [104,108,116])),(23,1,.const (.str [115,118,99,32,49])),(24,1,.const (.str [120,121,122])),(25,1,.const (.str [98,32,57,50,50,51,51,55,50,48,51,54,56,53,52,55,55,53,56,48,56]))]) 0,m e.f e.b.a 1]).seq ((reg [o e.b.b (.buildSlice [.bool false,.bool false,.bool false,.bool false,.bool false,.bool false,.bool false,.bool false,.bool false,.bool false,.bool false,.bool false,.bool false,.bool false,.bool false,.bool false,.bool false,.bool false,.bool false,.bool false,.bool false,.bool false,.bool false,.bool false,.bool false,.bool false] 1 26 4 [(0,1,.const (.bool false)),(1,1,.const (.bool false)),(2,1,.const (.bool false)),(3,1,.const (.bool false)),(4,1,.const (.bool false)),(5,1,.const (.bool false)),(6,1,.const (.bool false)),(7,1,.const (.bool false)),(8,1,.const (.bool false)),(9,1,.const (.bool false)),(10,1,.const (.bool false)),(11,1,.const (.bool false)),(12,1,.const (.bool false)),(13,1,.const (.bool true)),(14,1,.const (.bool false)),(15,1,.const (.bool false)),(16,1,.const (.bool true)),(17,1,.const (.bool false)),(18,1,.const (.bool true)),(19,1,.const (.bool true)),(20,1,.const (.bool true)),(21,1,.const (.bool false)),(22,1,.const (.bool true)),(23,1,.const (.bool false)),(24,1,.const (.bool false)),(25,1,.const (.bool false))]) 0,m e.a.a e.b.b 1]).seq (((reg [m e.b.c e.c 0,o e.b.f (.un .not (t e.b.c)) 1,m e.c.a e.b.f 2,G e.c.b (.move (t e)) e.c.a false 3,G e.c.c (.bin .num .lss (t e.c.b) (k 0)) e.c.a false 4,o e.c.f (.pick (t e.c.a) kt (t e.c.c)) 5,m e.f.a e.c.f 6,G e.f.b (.move (t e)) e.f.a false 7,G e.f.c (.move (t e.f)) e.f.a false 8,G e.f.f (.lenSlc (t e.f.c)) e.f.a false 9,G e.a.a.a (.bin .num .geq (t e.f.b) (t e.f.f)) e.f.a false 10,o e.a.a.b (.pick (t e.f.a) kt (t e.a.a.a)) 11]).seq (NC.cond (t e.a.a.b) ((reg [m e.a.a.c e.c 0,m e.b e.a.a.c 1]).seq NC.ret) NC.skip)).seq ((reg [m e.a.b.a e.f 0,m e.a.b.b e 1,o e.a.b.c (.indexSlc 1 (t e.a.b.a) (t e.a.b.b)) 2,l e.a.b.f e.a.b.c 3,o e.a.c.a (.call (F 12) [t e.a.b.f]) 4,m e.a.a.f e.a.c.a 5,x e.a.c.b e.a.a.f 0 6,x e.a.c.c e.a.a.f 1 7,o e.a.b (.alloc [.int .i64 (.lit 0),.int .i64 (.lit 0),.int .i64 (.lit 0),.int .i64 (.lit 0),.int .i64 (.lit 0),.int .i64 (.lit 0),.int .i64 (.lit 0)] 23) 8,q (.store 7 (t e.a.b) (t e.a.c.b)) 9,m e.a.c e.a.c.c 10]).seq ((regD [m e.a.c.f e.a.c 0,m e.a.f.c e.a.a 3,m e.a.f.f e 4,O e.b.a.a (.indexSlc 1 (t e.a.f.c) (t e.a.f.f)) 24 5,O e.b.a.b (.load1 (t e.b.a.a)) 56 6,O e.a.f.a (.call (F 13) [t e.a.c.f]) 1 1,O e.a.f.b (.bin .num .eql (t e.a.f.a) (k 0)) 3 2,O e.b.a.c (.bin .bool .eql (t e.a.f.b) (t e.b.a.b)) 127 7,O e.b (.move (t e.b.a.c)) 255 8]).seq NC.ret)))))),40, [.tmp e.b]⟩
theorem Ab:ak Tryd.prog 5=some (.code Ee):=by kernel_rfl
noncomputable def Di:NFun:=⟨(reg [o e.b (.box (t e) 23) 0,o e.c (.box (t e.a) 23) 1,o e.f (.move kf) 2]).seq ((reg [o e.a.b (.call (F 8) []) 0,m e.a.a e.a.b 1]).seq (((reg [m e.a.c e.a.a 0,o e.a.f (.un .not (t e.a.c)) 1,m e.b.a e.a.f 2,G e.b.b (.loadN 7 (t e.b)) e.b.a false 3,G e.b.c (.call (F 11) [t e.b.b]) e.b.a false 4,G e.b.f (.un .not (t e.b.c)) e.b.a false 5,o e.c.a (.pick (t e.b.a) kt (t e.b.f)) 6,m e.c.b e.c.a 7,G e.c.c (.loadN 7 (t e.c)) e.c.b false 8,G e.c.f (.call (F 11) [t e.c.c]) e.c.b false 9,G e.f.a (.un .not (t e.c.f)) e.c.b false 10,o e.f.b (.pick (t e.c.b) kt (t e.f.a)) 11]).seq (NC.cond (t e.f.b) ((reg [m e.f.c e.a.a 0,m e.f e.f.c 1]).seq NC.ret) NC.skip)).seq ((regD [o e.f.f (.loadN 7 (t e.b)) 0,o e.a.a.b (.loadN 7 (t e.c)) 2,o e.a.b.a (.loadN 7 (t e.b)) 5,o e.a.b.b (.loadN 7 (t e.c)) 6,O e.a.b.c (.eqAgg false [.int,.int,.int,.int,.int,.int,.int] (t e.a.b.a) (t e.a.b.b)) 96 7,O e.a.a.a (.call (F 9) [t e.f.f]) 1 1,O e.a.a.c (.call (F 9) [t e.a.a.b]) 7 3,O e.a.a.f (.bin .num .eql (t e.a.a.a) (t e.a.a.c)) 15 4,O e.a.b.f (.bin .bool .eql (t e.a.a.f) (t e.a.b.c)) 255 8,O e.f (.move (t e.a.b.f)) 511 9]).seq NC.ret))),29, [.tmp e.f]⟩
theorem pG:ak Tryd.prog 6=some (.code Di):=by kernel_rfl
noncomputable def Ea:NFun:=⟨(reg [o e (.move kf) 0]).seq ((reg [o e.f (.call (F 12) [.const (.str [109,111,118,122,32,49,32,50,32,48])]) 0,m e.c e.f 1,x e.a.a e.c 0 2,x e.a.b e.c 1 3,o e.a (.alloc [.int .i64 (.lit 0),.int .i64 (.lit 0),.int .i64 (.lit 0),.int .i64 (.lit 0),.int .i64 (.lit 0),.int .i64 (.lit 0),.int .i64 (.lit 0)] 23) 4,q (.store 7 (t e.a) (t e.a.a)) 5,m e.b e.a.b 6]).seq ((reg [o e.a.c (.build [.int .i64 (.lit 0),.int .i64 (.lit 0),.int .i64 (.lit 0),.int .i64 (.lit 0),.int .i64 (.lit 0),.int .i64 (.lit 0),.int .i64 (.lit 0)] [(0,1,k 21)]) 0,o e.a.f (.call (F 9) [t e.a.c]) 1,b e.b.a .eql (t e.a.f) (.const (.str [110,111,112])) 2,m e.b.b e.b.a 3,G e.b.c (.move (t e.b)) e.b.b true 4,G e.b.f (.call (F 13) [t e.b.c]) e.b.b true 5,G e.c.a (.bin .num .eql (t e.b.f) (k 0)) e.b.b true 6,o e.c.b (.pick (t e.b.b) (t e.c.a) kf) 7,m e.c.c e.c.b 8,G e.c.f (.loadN 7 (t e.a)) e.c.c true 9,G e.f.a (.build [.int .i64 (.lit 0),.int .i64 (.lit 0),.int .i64 (.lit 0),.int .i64 (.lit 0),.int .i64 (.lit 0),.int .i64 (.lit 0),.int .i64 (.lit 0)] [(0,1,k 0),(1,1,k 1),(6,1,k 2)]) e.c.c true 10,G e.f.b (.eqAgg false [.int,.int,.int,.int,.int,.int,.int] (t e.c.f) (t e.f.a)) e.c.c true 11,o e.f.c (.pick (t e.c.c) (t e.f.b) kf) 12,m e e.f.c 13]).seq NC.ret)),20, [.tmp e]⟩
theorem zd:ak Tryd.prog 8=some (.code Ea):=by kernel_rfl
noncomputable def sC:NC:=((reg [b e.f.f .lss (t e.f.c) (t e.f.b) 0]).seq ((NC.cond (t e.f.f) NC.skip (NC.exit 0)).seq ((NC.block 1 ((reg [m e.a.a.a e.f.c 0,m e.a.a e.a.a.a 1]).seq (reg [m e.a.a.b e.f 0,f 1 e.a.a.c e.c 1,l e.a.a.f e.a.a.c 2,m e.a.b.a e.a.a 3,o e.a.b.b (.indexStr (t e.a.a.f) (t e.a.b.a)) 4,o e.a.b.c (.call (F 21) [t e.a,t e.a.b.b]) 5,n e.a.b.f e.a.b.c 6,l e.a.c.a e.a.b.f 7,o e.a.c.b (.call (F 20) [t e.a.c.a]) 8,b e.a.c.c .add (.const (.str [32])) (t e.a.c.b) 9,b e.a.c.f .add (t e.a.a.b) (t e.a.c.c) 10,m e.f e.a.c.f 11]))).seq (reg [b e.a.f.a .add (t e.f.c) (k 1) 0,m e.f.c e.a.f.a 1]))))
noncomputable def C7:NFun:=⟨(reg [o e.a (.box (t e) 23) 0,o e.b (.move (.const (.str []))) 1]).seq (((reg [o e.a.b (.loadN 7 (t e.a)) 0,o e.a.c (.call (F 18) [t e.a.b]) 1,o e.a.f (.un .not (t e.a.c)) 2]).seq (NC.cond (t e.a.f) ((reg [o e.b (.move (.const (.str []))) 0]).seq NC.ret) NC.skip)).seq ((regD [f 0 e.b.b e.a 1,O e.b.c (.load1 (t e.b.b)) 2 2,o e.c (.alloc [.str [],.str []] 46) 5,o e.b.a (.call (F 19) []) 0,O e.b.f (.indexSlc 2 (t e.b.a) (t e.b.c)) 7 3,O e.c.a (.loadN 2 (t e.b.f)) 15 4,⟨none,.store 2 (t e.c) (t e.c.a),none,63,6⟩]).seq ((reg [f 0 e.c.b e.c 0,l e.c.c e.c.b 1,m e.f e.c.c 2]).seq (((reg [f 1 e.c.f e.c 0,l e.f.a e.c.f 1,o e.f.b (.lenStr (t e.f.a)) 2,o e.f.c (.move (k 0)) 3]).seq (NC.block 0 sC.loop)).seq ((reg [m e.a.f.b e.f 0,m e.b e.a.f.b 1]).seq NC.ret))))),35, [.tmp e.b]⟩
theorem uH:ak Tryd.prog 9=some (.code C7):=by kernel_rfl
noncomputable def xE:NC:=(((reg [m e.a.b.b.c e.a.b 0,m e.a.b.b.f e.f 1,L e.a.b.c.a e.a.b.b.f 2,b e.a.b.c.b .lss (t e.a.b.b.c) (t e.a.b.c.a) 3]).seq (NC.cond (t e.a.b.c.b) NC.skip (NC.exit 1))).seq ((NC.block 2 (reg [m e.a.b.f.a e.a.a 0,b e.a.b.f.b .add (t e.a.b.f.a) (.const (.str [32])) 1,m e.a.b.f.c e.f 2,m e.a.b.f.f e.a.b 3,o e.a.c.a.a (.indexSlc 1 (t e.a.b.f.c) (t e.a.b.f.f)) 4,l e.a.c.a.b e.a.c.a.a 5,o e.a.c.a.c (.call (F 22) [t e.a.c.a.b]) 6,b e.a.c.a.f .add (t e.a.b.f.b) (t e.a.c.a.c) 7,m e.a.a e.a.c.a.f 8])).seq (reg [m e.a.b.c.c e.a.b 0,b e.a.b.c.f .add (t e.a.b.c.c) (k 1) 1,m e.a.b e.a.b.c.f 2])))
noncomputable def Ci:NFun:=⟨(reg [o e.a (.box (t e) 23) 0,o e.b (.move (.const (.str []))) 1]).seq (((reg [o e.a.c (.loadN 7 (t e.a)) 0,o e.a.f (.call (F 11) [t e.a.c]) 1,o e.b.a (.un .not (t e.a.f)) 2]).seq (NC.cond (t e.b.a) ((reg [o e.b (.move (.const (.str []))) 0]).seq NC.ret) NC.skip)).seq ((reg [o e.b.b (.buildSlice [.str [],.str [],.str [],.str [],.str [],.str [],.str [],.str [],.str [],.str [],.str [],.str [],.str [],.str [],.str [],.str [],.str [],.str [],.str [],.str [],.str [],.str [],.str [],.str []] 1 24 9 [(0,1,.const (.str [109,111,118,122])),(1,1,.const (.str [109,111,118,107])),(2,1,.const (.str [97,100,100])),(3,1,.const (.str [115,117,98])),(4,1,.const (.str [109,117,108])),(5,1,.const (.str [97,110,100])),(6,1,.const (.str [99,109,112])),(7,1,.const (.str [99,115,101,116])),(8,1,.const (.str [98])),(9,1,.const (.str [98,99])),(10,1,.const (.str [99,98,122])),(11,1,.const (.str [99,98,110,122])),(12,1,.const (.str [108,100,114])),(13,1,.const (.str [115,116,114])),(14,1,.const (.str [108,100,97,114])),(15,1,.const (.str [115,116,108,114])),(16,1,.const (.str [108,100,120,114])),(17,1,.const (.str [115,116,120,114])),(18,1,.const (.str [100,109,98])),(19,1,.const (.str [100,115,98])),(20,1,.const (.str [99,118,97,112])),(21,1,.const (.str [110,111,112])),(22,1,.const (.str [104,108,116])),(23,1,.const (.str [115,118,99]))]) 0,m e.c e.b.b 1]).seq ((reg [o e.f (.move kn) 0]).seq (((reg [f 0 e.b.c e.a 0,l e.b.f e.b.c 1]).seq (NC.block 0 (((reg [b e.c.b .eql (t e.b.f) (k 0) 0,m e.c.a e.c.b 1]).seq (NC.cond (t e.c.a) NC.skip (reg [b e.c.c .eql (t e.b.f) (k 1) 0,m e.c.a e.c.c 1]))).seq (NC.cond (t e.c.a) (reg [f 1 e.c.f e.a 0,l e.f.a e.c.f 1,f 6 e.f.b e.a 2,l e.f.c e.f.b 3,f 4 e.f.f e.a 4,l e.a.a.a e.f.f 5,o e.a.a.b (.buildSlice [.int .i64 (.lit 0),.int .i64 (.lit 0),.int .i64 (.lit 0)] 1 3 3 [(0,1,t e.f.a),(1,1,t e.f.c),(2,1,t e.a.a.a)]) 6,m e.f e.a.a.b 7]) (((reg [b e.a.a.f .eql (t e.b.f) (k 2) 0,m e.a.a.c e.a.a.f 1]).seq (NC.cond (t e.a.a.c) NC.skip ((reg [b e.a.b.a .eql (t e.b.f) (k 3) 0,m e.a.a.c e.a.b.a 1]).seq (NC.cond (t e.a.a.c) NC.skip ((reg [b e.a.b.b .eql (t e.b.f) (k 4) 0,m e.a.a.c e.a.b.b 1]).seq (NC.cond (t e.a.a.c) NC.skip (reg [b e.a.b.c .eql (t e.b.f) (k 5) 0,m e.a.a.c e.a.b.c 1]))))))).seq (NC.cond (t e.a.a.c) (reg [f 1 e.a.b.f e.a 0,l e.a.c.a e.a.b.f 1,f 2 e.a.c.b e.a 2,l e.a.c.c e.a.c.b 3,f 3 e.a.c.f e.a 4,l e.a.f.a e.a.c.f 5,o e.a.f.b (.buildSlice [.int .i64 (.lit 0),.int .i64 (.lit 0),.int .i64 (.lit 0)] 1 3 3 [(0,1,t e.a.c.a),(1,1,t e.a.c.c),(2,1,t e.a.f.a)]) 6,m e.f e.a.f.b 7]) ((reg [b e.a.f.f .eql (t e.b.f) (k 6) 0,m e.a.f.c e.a.f.f 1]).seq (NC.cond (t e.a.f.c) (reg [f 2 e.b.a.a e.a 0,l e.b.a.b e.b.a.a 1,f 3 e.b.a.c e.a 2,l e.b.a.f e.b.a.c 3,o e.b.b.a (.buildSlice [.int .i64 (.lit 0),.int .i64 (.lit 0)] 1 2 3 [(0,1,t e.b.a.b),(1,1,t e.b.a.f)]) 4,m e.f e.b.b.a 5]) ((reg [b e.b.b.c .eql (t e.b.f) (k 7) 0,m e.b.b.b e.b.b.c 1]).seq (NC.cond (t e.b.b.b) (reg [f 1 e.b.b.f e.a 0,l e.b.c.a e.b.b.f 1,f 5 e.b.c.b e.a 2,l e.b.c.c e.b.c.b 3,o e.b.c.f (.buildSlice [.int .i64 (.lit 0),.int .i64 (.lit 0)] 1 2 3 [(0,1,t e.b.c.a),(1,1,t e.b.c.c)]) 4,m e.f e.b.c.f 5]) ((reg [b e.b.f.b .eql (t e.b.f) (k 8) 0,m e.b.f.a e.b.f.b 1]).seq (NC.cond (t e.b.f.a) (reg [f 6 e.b.f.c e.a 0,l e.b.f.f e.b.f.c 1,o e.c.a.a (.buildSlice [.int .i64 (.lit 0)] 1 1 3 [(0,1,t e.b.f.f)]) 2,m e.f e.c.a.a 3]) ((reg [b e.c.a.c .eql (t e.b.f) (k 9) 0,m e.c.a.b e.c.a.c 1]).seq (NC.cond (t e.c.a.b) (reg [f 5 e.c.a.f e.a 0,l e.c.b.a e.c.a.f 1,f 6 e.c.b.b e.a 2,l e.c.b.c e.c.b.b 3,o e.c.b.f (.buildSlice [.int .i64 (.lit 0),.int .i64 (.lit 0)] 1 2 3 [(0,1,t e.c.b.a),(1,1,t e.c.b.c)]) 4,m e.f e.c.b.f 5]) (((reg [b e.c.c.b .eql (t e.b.f) (k 10) 0,m e.c.c.a e.c.c.b 1]).seq (NC.cond (t e.c.c.a) NC.skip (reg [b e.c.c.c .eql (t e.b.f) (k 11) 0,m e.c.c.a e.c.c.c 1]))).seq (NC.cond (t e.c.c.a) (reg [f 2 e.c.c.f e.a 0,l e.c.f.a e.c.c.f 1,f 6 e.c.f.b e.a 2,l e.c.f.c e.c.f.b 3,o e.c.f.f (.buildSlice [.int .i64 (.lit 0),.int .i64 (.lit 0)] 1 2 3 [(0,1,t e.c.f.a),(1,1,t e.c.f.c)]) 4,m e.f e.c.f.f 5]) (((reg [b e.f.a.b .eql (t e.b.f) (k 12) 0,m e.f.a.a e.f.a.b 1]).seq (NC.cond (t e.f.a.a) NC.skip (reg [b e.f.a.c .eql (t e.b.f) (k 13) 0,m e.f.a.a e.f.a.c 1]))).seq (NC.cond (t e.f.a.a) (reg [f 1 e.f.a.f e.a 0,l e.f.b.a e.f.a.f 1,f 2 e.f.b.b e.a 2,l e.f.b.c e.f.b.b 3,f 6 e.f.b.f e.a 4,l e.f.c.a e.f.b.f 5,o e.f.c.b (.buildSlice [.int .i64 (.lit 0),.int .i64 (.lit 0),.int .i64 (.lit 0)] 1 3 3 [(0,1,t e.f.b.a),(1,1,t e.f.b.c),(2,1,t e.f.c.a)]) 6,m e.f e.f.c.b 7]) (((reg [b e.f.c.f .eql (t e.b.f) (k 14) 0,m e.f.c.c e.f.c.f 1]).seq (NC.cond (t e.f.c.c) NC.skip ((reg [b e.f.f.a .eql (t e.b.f) (k 15) 0,m e.f.c.c e.f.f.a 1]).seq (NC.cond (t e.f.c.c) NC.skip (reg [b e.f.f.b .eql (t e.b.f) (k 16) 0,m e.f.c.c e.f.f.b 1]))))).seq (NC.cond (t e.f.c.c) (reg [f 1 e.f.f.c e.a 0,l e.f.f.f e.f.f.c 1,f 2 e.a.a.a.a e.a 2,l e.a.a.a.b e.a.a.a.a 3,o e.a.a.a.c (.buildSlice [.int .i64 (.lit 0),.int .i64 (.lit 0)] 1 2 3 [(0,1,t e.f.f.f),(1,1,t e.a.a.a.b)]) 4,m e.f e.a.a.a.c 5]) ((reg [b e.a.a.b.a .eql (t e.b.f) (k 17) 0,m e.a.a.a.f e.a.a.b.a 1]).seq (NC.cond (t e.a.a.a.f) (reg [f 4 e.a.a.b.b e.a 0,l e.a.a.b.c e.a.a.b.b 1,f 1 e.a.a.b.f e.a 2,l e.a.a.c.a e.a.a.b.f 3,f 2 e.a.a.c.b e.a 4,l e.a.a.c.c e.a.a.c.b 5,o e.a.a.c.f (.buildSlice [.int .i64 (.lit 0),.int .i64 (.lit 0),.int .i64 (.lit 0)] 1 3 3 [(0,1,t e.a.a.b.c),(1,1,t e.a.a.c.a),(2,1,t e.a.a.c.c)]) 6,m e.f e.a.a.c.f 7]) ((reg [b e.a.a.f.b .eql (t e.b.f) (k 20) 0,m e.a.a.f.a e.a.a.f.b 1]).seq (NC.cond (t e.a.a.f.a) (reg [f 2 e.a.a.f.c e.a 0,l e.a.a.f.f e.a.a.f.c 1,o e.a.b.a.a (.buildSlice [.int .i64 (.lit 0)] 1 1 3 [(0,1,t e.a.a.f.f)]) 2,m e.f e.a.b.a.a 3]) NC.skip)))))))))))))))))))))))).seq ((reg [m e.a.b.a.b e.c 0,f 0 e.a.b.a.c e.a 1,l e.a.b.a.f e.a.b.a.c 2,o e.a.b.b.a (.indexSlc 1 (t e.a.b.a.b) (t e.a.b.a.f)) 3,l e.a.b.b.b e.a.b.b.a 4,m e.a.a e.a.b.b.b 5]).seq (((reg [o e.a.b (.move (k 0)) 0]).seq (NC.block 1 xE.loop)).seq ((reg [m e.a.c.b.a e.a.a 0,m e.b e.a.c.b.a 1]).seq NC.ret))))))),122, [.tmp e.b]⟩
theorem xD:ak Tryd.prog 10=some (.code Ci):=by kernel_rfl
noncomputable def wU:NFun:=⟨(reg [o e.a (.box (t e) 23) 0,o e.b (.move kf) 1]).seq ((reg [f 0 e.a.b e.a 0,l e.a.c e.a.b 1,o e.a.f (.call (F 23) [t e.a.c]) 2,m e.a.a e.a.f 3,x e.b.a e.a.a 0 4,x e.b.b e.a.a 1 5,o e.c (.alloc [.int .u32 (.lit 0),.int .i64 (.lit 0),.int .i64 (.lit 0),.int .i64 (.lit 0),.int .i64 (.lit 0),.int .i64 (.lit 0),.int .i64 (.lit 0),.int .i64 (.lit 0),.int .i64 (.lit 0),.int .i64 (.lit 0),.int .i64 (.lit 0),.int .i64 (.lit 0),.int .i64 (.lit 0),.bool false,.bool false] 58) 6,q (.store 15 (t e.c) (t e.b.a)) 7,m e.f e.b.b 8]).seq (((reg [m e.b.c e.f 0,o e.b.f (.un .not (t e.b.c)) 1,m e.c.a e.b.f 2,G e.c.b (.fieldAddr 1 (t e.a)) e.c.a false 3,G e.c.c (.load1 (t e.c.b)) e.c.a false 4,G e.c.f (.fieldAddr 1 (t e.c)) e.c.a false 5,G e.f.a (.fieldAddr 1 (t e.c.f)) e.c.a false 6,G e.f.b (.load1 (t e.f.a)) e.c.a false 7,G e.f.c (.call (F 24) [t e.c.c,t e.f.b]) e.c.a false 8,G e.f.f (.un .not (t e.f.c)) e.c.a false 9,o e.a.a.a (.pick (t e.c.a) kt (t e.f.f)) 10,m e.a.a.b e.a.a.a 11,G e.a.a.c (.fieldAddr 2 (t e.a)) e.a.a.b false 12,G e.a.a.f (.load1 (t e.a.a.c)) e.a.a.b false 13,G e.a.b.a (.fieldAddr 3 (t e.c)) e.a.a.b false 14,G e.a.b.b (.fieldAddr 1 (t e.a.b.a)) e.a.a.b false 15,G e.a.b.c (.load1 (t e.a.b.b)) e.a.a.b false 16,G e.a.b.f (.call (F 24) [t e.a.a.f,t e.a.b.c]) e.a.a.b false 17,G e.a.c.a (.un .not (t e.a.b.f)) e.a.a.b false 18,o e.a.c.b (.pick (t e.a.a.b) kt (t e.a.c.a)) 19,m e.a.c.c e.a.c.b 20,G e.a.c.f (.fieldAddr 3 (t e.a)) e.a.c.c false 21,G e.a.f.a (.load1 (t e.a.c.f)) e.a.c.c false 22,G e.a.f.b (.fieldAddr 5 (t e.c)) e.a.c.c false 23,G e.a.f.c (.fieldAddr 1 (t e.a.f.b)) e.a.c.c false 24,G e.a.f.f (.load1 (t e.a.f.c)) e.a.c.c false 25,G e.b.a.a (.call (F 24) [t e.a.f.a,t e.a.f.f]) e.a.c.c false 26,G e.b.a.b (.un .not (t e.b.a.a)) e.a.c.c false 27,o e.b.a.c (.pick (t e.a.c.c) kt (t e.b.a.b)) 28,m e.b.a.f e.b.a.c 29,G e.b.b.a (.fieldAddr 4 (t e.a)) e.b.a.f false 30,G e.b.b.b (.load1 (t e.b.b.a)) e.b.a.f false 31,G e.b.b.c (.fieldAddr 7 (t e.c)) e.b.a.f false 32,G e.b.b.f (.fieldAddr 1 (t e.b.b.c)) e.b.a.f false 33,G e.b.c.a (.load1 (t e.b.b.f)) e.b.a.f false 34,G e.b.c.b (.call (F 24) [t e.b.b.b,t e.b.c.a]) e.b.a.f false 35,G e.b.c.c (.un .not (t e.b.c.b)) e.b.a.f false 36,o e.b.c.f (.pick (t e.b.a.f) kt (t e.b.c.c)) 37]).seq (NC.cond (t e.b.c.f) ((reg [o e.b (.move kf) 0]).seq NC.ret) NC.skip)).seq (((reg [f 13 e.b.f.a e.c 0,l e.b.f.b e.b.f.a 1,m e.b.f.c e.b.f.b 2,G e.b.f.f (.fieldAddr 6 (t e.a)) e.b.f.c true 3,G e.c.a.a (.load1 (t e.b.f.f)) e.b.f.c true 4,G e.c.a.b (.fieldAddr 9 (t e.c)) e.b.f.c true 5,G e.c.a.c (.fieldAddr 1 (t e.c.a.b)) e.b.f.c true 6,G e.c.a.f (.load1 (t e.c.a.c)) e.b.f.c true 7,G e.c.b.a (.call (F 25) [t e.c.a.a,t e.c.a.f]) e.b.f.c true 8,G e.c.b.b (.un .not (t e.c.b.a)) e.b.f.c true 9,o e.c.b.c (.pick (t e.b.f.c) (t e.c.b.b) kf) 10,m e.c.b.f e.c.b.c 11,G e.c.c.a (.fieldAddr 13 (t e.c)) e.c.b.f false 12,G e.c.c.b (.load1 (t e.c.c.a)) e.c.b.f false 13,G e.c.c.c (.un .not (t e.c.c.b)) e.c.b.f false 14,G e.c.c.f (.move (t e.c.c.c)) e.c.b.f false 15,G e.c.f.a (.fieldAddr 6 (t e.a)) e.c.c.f true 16,G e.c.f.b (.load1 (t e.c.f.a)) e.c.c.f true 17,G e.c.f.c (.fieldAddr 9 (t e.c)) e.c.c.f true 18,G e.c.f.f (.fieldAddr 1 (t e.c.f.c)) e.c.c.f true 19,G e.f.a.a (.load1 (t e.c.f.f)) e.c.c.f true 20,G e.f.a.b (.call (F 24) [t e.c.f.b,t e.f.a.a]) e.c.c.f true 21,G e.f.a.c (.un .not (t e.f.a.b)) e.c.c.f true 22,G e.f.a.f (.pick (t e.c.c.f) (t e.f.a.c) kf) e.c.b.f false 23,o e.f.b.a (.pick (t e.c.b.f) kt (t e.f.a.f)) 24]).seq (NC.cond (t e.f.b.a) ((reg [o e.b (.move kf) 0]).seq NC.ret) NC.skip)).seq (((reg [f 11 e.f.b.b e.c 0,f 1 e.f.b.c e.f.b.b 1,l e.f.b.f e.f.b.c 2,b e.f.c.a .eql (t e.f.b.f) (k 0) 3]).seq (NC.cond (t e.f.c.a) ((reg [f 5 e.f.c.b e.a 0,l e.f.c.c e.f.c.b 1,b e.f.c.f .eql (t e.f.c.c) (k 0) 2,m e.b e.f.c.f 3]).seq NC.ret) NC.skip)).seq ((reg [f 5 e.f.f.a e.a 0,l e.f.f.b e.f.f.a 1,b e.f.f.c .eql (t e.f.f.b) (k 0) 2,m e.f.f.f e.f.f.c 3,G e.a.a.a.a (.fieldAddr 5 (t e.a)) e.f.f.f false 4,G e.a.a.a.b (.load1 (t e.a.a.a.a)) e.f.f.f false 5,G e.a.a.a.c (.bin .num .eql (t e.a.a.a.b) (k 1)) e.f.f.f false 6,o e.a.a.a.f (.pick (t e.f.f.f) kt (t e.a.a.a.c)) 7,m e.a.a.b.a e.a.a.a.f 8,G e.a.a.b.b (.fieldAddr 5 (t e.a)) e.a.a.b.a false 9,G e.a.a.b.c (.load1 (t e.a.a.b.b)) e.a.a.b.a false 10,G e.a.a.b.f (.bin .num .eql (t e.a.a.b.c) (k 11)) e.a.a.b.a false 11,o e.a.a.c.a (.pick (t e.a.a.b.a) kt (t e.a.a.b.f)) 12,m e.a.a.c.b e.a.a.c.a 13,G e.a.a.c.c (.fieldAddr 5 (t e.a)) e.a.a.c.b false 14,G e.a.a.c.f (.load1 (t e.a.a.c.c)) e.a.a.c.b false 15,G e.a.a.f.a (.bin .num .eql (t e.a.a.c.f) (k 10)) e.a.a.c.b false 16,o e.a.a.f.b (.pick (t e.a.a.c.b) kt (t e.a.a.f.a)) 17,m e.b e.a.a.f.b 18]).seq NC.ret))))),99, [.tmp e.b]⟩
theorem mj:ak Tryd.prog 11=some (.code wU):=by kernel_rfl
noncomputable def xu:NC:=((reg [b e.b.a.a .lss (t e.a.f.f) (t e.a.f.c) 0]).seq ((NC.cond (t e.b.a.a) NC.skip (NC.exit 0)).seq ((NC.block 1 ((reg [m e.b.a.b e.a.f.f 0,o e.b.a.c (.indexSlc 1 (t e.a.f.b) (t e.a.f.f)) 1,l e.b.a.f e.b.a.c 2,m e.a.c e.b.a.b 3,m e.a.f e.b.a.f 4]).seq ((reg [m e.b.b.b e.a.f 0,o e.b.b.c (.call (F 29) [t e.b.b.b]) 1,m e.b.b.a e.b.b.c 2,x e.b.b.f e.b.b.a 0 3,x e.b.c.a e.b.b.a 1 4,m e.b.a e.b.b.f 5,m e.b.b e.b.c.a 6]).seq (((reg [m e.b.c.b e.b.b 0,o e.b.c.c (.bin .ifc .neq (t e.b.c.b) (.const .nili)) 1]).seq (NC.cond (t e.b.c.c) ((reg [o e.b.c.f (.build [.int .i64 (.lit 0),.int .i64 (.lit 0),.int .i64 (.lit 0),.int .i64 (.lit 0),.int .i64 (.lit 0),.int .i64 (.lit 0),.int .i64 (.lit 0)] []) 0,q (.store 7 (t e.b) (t e.b.c.f)) 1,o e.c (.move (k 2)) 2]).seq NC.ret) NC.skip)).seq (reg [o e.b.f.a (.call (F 19) []) 0,m e.b.f.b e.a.a 1,o e.b.f.c (.indexSlc 2 (t e.b.f.a) (t e.b.f.b)) 2,f 1 e.b.f.f e.b.f.c 3,l e.c.a.a e.b.f.f 4,m e.c.a.b e.a.c 5,o e.c.a.c (.indexStr (t e.c.a.a) (t e.c.a.b)) 6,o e.c.a.f (.call (F 21) [t e.a.b,t e.c.a.c]) 7,m e.c.b.a e.b.a 8,n e.c.b.b e.c.a.f 9,q (.store 1 (t e.c.b.b) (t e.c.b.a)) 10]))))).seq (reg [b e.c.b.c .add (t e.a.f.f) (k 1) 0,m e.a.f.f e.c.b.c 1]))))
noncomputable def A3:NFun:=⟨(reg [o e.b (.alloc [.int .i64 (.lit 0),.int .i64 (.lit 0),.int .i64 (.lit 0),.int .i64 (.lit 0),.int .i64 (.lit 0),.int .i64 (.lit 0),.int .i64 (.lit 0)] 23) 0,o e.c (.move (k 0)) 1]).seq ((reg [m e.b.c e 0,o e.b.f (.call (F 26) [t e.b.c,.const (.str [32])]) 1,o e.f (.alloc [.nils] 32) 2,q (.store 1 (t e.f) (t e.b.f)) 3]).seq ((reg [o e.c.a (.call (F 19) []) 0,o e.c.b (.mkFn 28 [t e.f]) 1,o e.c.c (.call (F 27) [t e.c.a,t e.c.b]) 2,m e.a.a e.c.c 3]).seq (((regD [m e.c.f e.a.a 0,O e.f.a (.bin .num .lss (t e.c.f) (k 0)) 1 1,O e.f.b (.move (t e.f.a)) 3 2,⟨some e.f.c,.load1 (t e.f),some (e.f.b,false),7,3⟩,⟨some e.f.f,.lenSlc (t e.f.c),some (e.f.b,false),15,4⟩,⟨some e.a.a.a,.bin .num .sub (t e.f.f) (k 1),some (e.f.b,false),31,5⟩,⟨some e.a.a.c,.move (t e.a.a),some (e.f.b,false),7,7⟩,⟨some e.a.a.b,.call (F 19) [],some (e.f.b,false),7,6⟩,⟨some e.a.a.f,.indexSlc 2 (t e.a.a.b) (t e.a.a.c),some (e.f.b,false),199,8⟩,⟨some e.a.b.a,.fieldAddr 1 (t e.a.a.f),some (e.f.b,false),455,9⟩,⟨some e.a.b.b,.load1 (t e.a.b.a),some (e.f.b,false),967,10⟩,⟨some e.a.b.c,.lenStr (t e.a.b.b),some (e.f.b,false),1991,11⟩,⟨some e.a.b.f,.bin .num .neq (t e.a.a.a) (t e.a.b.c),some (e.f.b,false),4095,12⟩,O e.a.c.a (.pick (t e.f.b) kt (t e.a.b.f)) 8191 13]).seq (NC.cond (t e.a.c.a) ((reg [o e.a.c.b (.build [.int .i64 (.lit 0),.int .i64 (.lit 0),.int .i64 (.lit 0),.int .i64 (.lit 0),.int .i64 (.lit 0),.int .i64 (.lit 0),.int .i64 (.lit 0)] []) 0,q (.store 7 (t e.b) (t e.a.c.b)) 1,o e.c (.move (k 2)) 2]).seq NC.ret) NC.skip)).seq ((reg [m e.a.c.c e.a.a 0,o e.a.c.f (.build [.int .i64 (.lit 0),.int .i64 (.lit 0),.int .i64 (.lit 0),.int .i64 (.lit 0),.int .i64 (.lit 0),.int .i64 (.lit 0),.int .i64 (.lit 0)] [(0,1,t e.a.c.c)]) 1,o e.a.b (.alloc [.int .i64 (.lit 0),.int .i64 (.lit 0),.int .i64 (.lit 0),.int .i64 (.lit 0),.int .i64 (.lit 0),.int .i64 (.lit 0),.int .i64 (.lit 0)] 23) 2,q (.store 7 (t e.a.b) (t e.a.c.f)) 3]).seq (((reg [l e.a.f.a e.f 0,o e.a.f.b (.sliceSlc 1 (t e.a.f.a) (some (k 1)) none) 1,L e.a.f.c e.a.f.b 2,o e.a.f.f (.move (k 0)) 3]).seq (NC.block 0 xu.loop)).seq (((reg [o e.c.b.f (.loadN 7 (t e.a.b)) 0,o e.c.c.a (.call (F 9) [t e.c.b.f]) 1,m e.c.c.b e 2,b e.c.c.c .neq (t e.c.c.a) (t e.c.c.b) 3]).seq (NC.cond (t e.c.c.c) ((reg [o e.c.c.f (.build [.int .i64 (.lit 0),.int .i64 (.lit 0),.int .i64 (.lit 0),.int .i64 (.lit 0),.int .i64 (.lit 0),.int .i64 (.lit 0),.int .i64 (.lit 0)] []) 0,q (.store 7 (t e.b) (t e.c.c.f)) 1,o e.c (.move (k 2)) 2]).seq NC.ret) NC.skip)).seq ((reg [o e.c.f.a (.loadN 7 (t e.a.b)) 0,q (.store 7 (t e.b) (t e.c.f.a)) 1,o e.c (.move (k 0)) 2]).seq NC.ret))))))),66, [.cellN e.b 7,.tmp e.c]⟩
theorem ww:ak Tryd.prog 12=some (.code A3):=by kernel_rfl
noncomputable def BU:NFun:=⟨(reg [o e.b (.move (k 0)) 0]).seq ((reg [m e.c e 0,m e.b e.c 1]).seq NC.ret),4, [.tmp e.b]⟩
theorem x6:ak Tryd.prog 13=some (.code BU):=by kernel_rfl
noncomputable def zf:NFun:=⟨(reg [o e.a (.box (t e) 23) 0,o e.b (.move kf) 1]).seq ((reg [o e.f (.call (F 39) []) 0,m e.c e.f 1]).seq ((regD [f 0 e.a.a e.a 0,O e.a.b (.load1 (t e.a.a)) 1 1,O e.a.c (.bin .num .geq (t e.a.b) (k 0)) 3 2,O e.a.f (.move (t e.a.c)) 7 3,⟨some e.b.a,.fieldAddr 0 (t e.a),some (e.a.f,true),15,4⟩,⟨some e.b.b,.load1 (t e.b.a),some (e.a.f,true),31,5⟩,⟨some e.b.c,.move (t e.c),some (e.a.f,true),15,6⟩,⟨some e.b.f,.lenSlc (t e.b.c),some (e.a.f,true),79,7⟩,⟨some e.c.a,.bin .num .lss (t e.b.b) (t e.b.f),some (e.a.f,true),255,8⟩,O e.c.b (.pick (t e.a.f) (t e.c.a) kf) 511 9,O e.c.c (.move (t e.c.b)) 1023 10,⟨some e.c.f,.move (t e.c),some (e.c.c,true),2047,11⟩,⟨some e.f.a,.fieldAddr 0 (t e.a),some (e.c.c,true),2047,12⟩,⟨some e.f.b,.load1 (t e.f.a),some (e.c.c,true),6143,13⟩,⟨some e.f.c,.indexSlc 15 (t e.c.f) (t e.f.b),some (e.c.c,true),16383,14⟩,⟨some e.f.f,.loadN 15 (t e.f.c),some (e.c.c,true),32767,15⟩,⟨some e.a.a.a,.loadN 7 (t e.a),some (e.c.c,true),2047,16⟩,⟨some e.a.a.b,.call (F 40) [t e.f.f,t e.a.a.a],some (e.c.c,true),131071,17⟩,O e.a.a.c (.pick (t e.c.c) (t e.a.a.b) kf) 262143 18,O e.b (.move (t e.a.a.c)) 524287 19]).seq NC.ret)),24, [.tmp e.b]⟩
theorem qC:ak Tryd.prog 18=some (.code zf):=by kernel_rfl
noncomputable def Bk:NFun:=⟨(reg [o e (.move kn) 0]).seq ((reg [o e.a (.build [.str [],.str []] [(0,1,.const (.str [109,111,118,122])),(1,1,.const (.str [68,78,83]))]) 0,o e.b (.build [.str [],.str []] [(0,1,.const (.str [109,111,118,107])),(1,1,.const (.str [68,78,83]))]) 1,o e.c (.build [.str [],.str []] [(0,1,.const (.str [97,100,100])),(1,1,.const (.str [68,65,66]))]) 2,o e.f (.build [.str [],.str []] [(0,1,.const (.str [115,117,98])),(1,1,.const (.str [68,65,66]))]) 3,o e.a.a (.build [.str [],.str []] [(0,1,.const (.str [109,117,108])),(1,1,.const (.str [68,65,66]))]) 4,o e.a.b (.build [.str [],.str []] [(0,1,.const (.str [97,110,100])),(1,1,.const (.str [68,65,66]))]) 5,o e.a.c (.build [.str [],.str []] [(0,1,.const (.str [99,109,112])),(1,1,.const (.str [65,66]))]) 6,o e.a.f (.build [.str [],.str []] [(0,1,.const (.str [99,115,101,116])),(1,1,.const (.str [68,67]))]) 7,o e.b.a (.build [.str [],.str []] [(0,1,.const (.str [98])),(1,1,.const (.str [78]))]) 8,o e.b.b (.build [.str [],.str []] [(0,1,.const (.str [98,99])),(1,1,.const (.str [67,78]))]) 9,o e.b.c (.build [.str [],.str []] [(0,1,.const (.str [99,98,122])),(1,1,.const (.str [65,78]))]) 10,o e.b.f (.build [.str [],.str []] [(0,1,.const (.str [99,98,110,122])),(1,1,.const (.str [65,78]))]) 11,o e.c.a (.build [.str [],.str []] [(0,1,.const (.str [108,100,114])),(1,1,.const (.str [68,65,78]))]) 12,o e.c.b (.build [.str [],.str []] [(0,1,.const (.str [115,116,114])),(1,1,.const (.str [68,65,78]))]) 13,o e.c.c (.build [.str [],.str []] [(0,1,.const (.str [108,100,97,114])),(1,1,.const (.str [68,65]))]) 14,o e.c.f (.build [.str [],.str []] [(0,1,.const (.str [115,116,108,114])),(1,1,.const (.str [68,65]))]) 15,o e.f.a (.build [.str [],.str []] [(0,1,.const (.str [108,100,120,114])),(1,1,.const (.str [68,65]))]) 16,o e.f.b (.build [.str [],.str []] [(0,1,.const (.str [115,116,120,114])),(1,1,.const (.str [83,68,65]))]) 17,o e.f.c (.build [.str [],.str []] [(0,1,.const (.str [100,109,98])),(1,1,.const (.str []))]) 18,o e.f.f (.build [.str [],.str []] [(0,1,.const (.str [100,115,98])),(1,1,.const (.str []))]) 19,o e.a.a.a (.build [.str [],.str []] [(0,1,.const (.str [99,118,97,112])),(1,1,.const (.str [65]))]) 20,o e.a.a.b (.build [.str [],.str []] [(0,1,.const (.str [110,111,112])),(1,1,.const (.str []))]) 21,o e.a.a.c (.build [.str [],.str []] [(0,1,.const (.str [104,108,116])),(1,1,.const (.str []))]) 22,o e.a.a.f (.build [.str [],.str []] [(0,1,.const (.str [115,118,99])),(1,1,.const (.str []))]) 23,o e.a.b.a (.buildSlice [.str [],.str [],.str [],.str [],.str [],.str [],.str [],.str [],.str [],.str [],.str [],.str [],.str [],.str [],.str [],.str [],.str [],.str [],.str [],.str [],.str [],.str [],.str [],.str [],.str [],.str [],.str [],.str [],.str [],.str [],.str [],.str [],.str [],.str [],.str [],.str [],.str [],.str [],.str [],.str [],.str [],.str [],.str [],.str [],.str [],.str [],.str [],.str []] 2 24 46 [(0,2,t e.a),(2,2,t e.b),(4,2,t e.c),(6,2,t e.f),(8,2,t e.a.a),(10,2,t e.a.b),(12,2,t e.a.c),(14,2,t e.a.f),(16,2,t e.b.a),(18,2,t e.b.b),(20,2,t e.b.c),(22,2,t e.b.f),(24,2,t e.c.a),(26,2,t e.c.b),(28,2,t e.c.c),(30,2,t e.c.f),(32,2,t e.f.a),(34,2,t e.f.b),(36,2,t e.f.c),(38,2,t e.f.f),(40,2,t e.a.a.a),(42,2,t e.a.a.b),(44,2,t e.a.a.c),(46,2,t e.a.a.f)]) 24,m e e.a.b.a 25]).seq NC.ret),26, [.tmp e]⟩
theorem xT:ak Tryd.prog 19=some (.code Bk):=by kernel_rfl
noncomputable def Cp:NFun:=⟨(reg [o e.b (.move (.const (.str []))) 0]).seq ((reg [m e.c e 0,o e.f (.call (F 41) [t e.c]) 1,m e.b e.f 2]).seq NC.ret),5, [.tmp e.b]⟩
theorem xJ:ak Tryd.prog 20=some (.code Cp):=by kernel_rfl
noncomputable def zL:NFun:=⟨(reg [o e.f (.move (.const .nilp)) 0]).seq (((reg [m e.a.a e.a 0]).seq (NC.block 0 ((reg [b e.a.c .eql (t e.a.a) (kb 68) 0,m e.a.b e.a.c 1]).seq (NC.cond (t e.a.b) ((reg [m e.a.f e 0,n e.b.a e.a.f 1,f 1 e.b.b e.b.a 2,m e.f e.b.b 3]).seq NC.ret) ((reg [b e.b.f .eql (t e.a.a) (kb 65) 0,m e.b.c e.b.f 1]).seq (NC.cond (t e.b.c) ((reg [m e.c.a e 0,n e.c.b e.c.a 1,f 2 e.c.c e.c.b 2,m e.f e.c.c 3]).seq NC.ret) ((reg [b e.f.a .eql (t e.a.a) (kb 66) 0,m e.c.f e.f.a 1]).seq (NC.cond (t e.c.f) ((reg [m e.f.b e 0,n e.f.c e.f.b 1,f 3 e.f.f e.f.c 2,m e.f e.f.f 3]).seq NC.ret) ((reg [b e.a.a.b .eql (t e.a.a) (kb 83) 0,m e.a.a.a e.a.a.b 1]).seq (NC.cond (t e.a.a.a) ((reg [m e.a.a.c e 0,n e.a.a.f e.a.a.c 1,f 4 e.a.b.a e.a.a.f 2,m e.f e.a.b.a 3]).seq NC.ret) ((reg [b e.a.b.c .eql (t e.a.a) (kb 67) 0,m e.a.b.b e.a.b.c 1]).seq (NC.cond (t e.a.b.b) ((reg [m e.a.b.f e 0,n e.a.c.a e.a.b.f 1,f 5 e.a.c.b e.a.c.a 2,m e.f e.a.c.b 3]).seq NC.ret) NC.skip)))))))))))).seq ((reg [m e.a.c.c e 0,n e.a.c.f e.a.c.c 1,f 6 e.a.f.a e.a.c.f 2,m e.f e.a.f.a 3]).seq NC.ret)),34, [.tmp e.f]⟩
theorem pZ:ak Tryd.prog 21=some (.code zL):=by kernel_rfl
noncomputable def Cc:NFun:=⟨(reg [o e.b (.move (.const (.str []))) 0]).seq (((reg [m e.f e 0,b e.a.a .lss (t e.f) (k 0) 1]).seq (NC.cond (t e.a.a) ((reg [m e.a.b e 0,o e.a.c (.un .neg (t e.a.b)) 1,o e.a.f (.call (F 22) [t e.a.c]) 2,b e.b.a .add (.const (.str [45])) (t e.a.f) 3,m e.b e.b.a 4]).seq NC.ret) NC.skip)).seq ((reg [m e.b.b e 0,b e.b.c .rem (t e.b.b) (k 10) 1,m e.b.f e 2,b e.c.a .rem (t e.b.f) (k 10) 3,b e.c.b .add (t e.c.a) (k 1) 4,o e.c.c (.sliceStr (.const (.str [48,49,50,51,52,53,54,55,56,57])) (some (t e.b.c)) (some (t e.c.b))) 5,m e.c e.c.c 6]).seq (((reg [m e.c.f e 0,b e.f.a .gtr (t e.c.f) (k 9) 1]).seq (NC.cond (t e.f.a) ((reg [m e.f.b e 0,b e.f.c .quo (t e.f.b) (k 10) 1,o e.f.f (.call (F 22) [t e.f.c]) 2,m e.a.a.a e.c 3,b e.a.a.b .add (t e.f.f) (t e.a.a.a) 4,m e.b e.a.a.b 5]).seq NC.ret) NC.skip)).seq ((reg [m e.a.a.c e.c 0,m e.b e.a.a.c 1]).seq NC.ret)))),24, [.tmp e.b]⟩
theorem xg:ak Tryd.prog 22=some (.code Cc):=by kernel_rfl
noncomputable def Cw:NFun:=⟨(reg [o e.b (.alloc [.int .u32 (.lit 0),.int .i64 (.lit 0),.int .i64 (.lit 0),.int .i64 (.lit 0),.int .i64 (.lit 0),.int .i64 (.lit 0),.int .i64 (.lit 0),.int .i64 (.lit 0),.int .i64 (.lit 0),.int .i64 (.lit 0),.int .i64 (.lit 0),.int .i64 (.lit 0),.int .i64 (.lit 0),.bool false,.bool false] 58) 0,o e.c (.move kf) 1]).seq ((reg [o e.a.c (.build [.int .i64 (.lit 0),.int .i64 (.lit 0)] [(0,1,k 0),(1,1,k 5)]) 0,o e.f (.alloc [.int .i64 (.lit 0),.int .i64 (.lit 0)] 56) 1,q (.store 2 (t e.f) (t e.a.c)) 2]).seq ((reg [o e.a.f (.build [.int .i64 (.lit 0),.int .i64 (.lit 0)] [(0,1,k 5),(1,1,k 5)]) 0,o e.a.a (.alloc [.int .i64 (.lit 0),.int .i64 (.lit 0)] 56) 1,q (.store 2 (t e.a.a) (t e.a.f)) 2]).seq ((reg [o e.b.a (.build [.int .i64 (.lit 0),.int .i64 (.lit 0)] [(0,1,k 16),(1,1,k 5)]) 0,o e.a.b (.alloc [.int .i64 (.lit 0),.int .i64 (.lit 0)] 56) 1,q (.store 2 (t e.a.b) (t e.b.a)) 2]).seq (((reg [m e.b.b e 0]).seq (NC.block 0 ((reg [b e.b.f .eql (t e.b.b) (k 0) 0,m e.b.c e.b.f 1]).seq (NC.cond (t e.b.c) ((reg [o e.c.a (.loadN 2 (t e.f)) 0,o e.c.b (.build [.int .i64 (.lit 0),.int .i64 (.lit 0)] [(0,1,k 21),(1,1,k 2)]) 1,o e.c.c (.build [.int .i64 (.lit 0),.int .i64 (.lit 0)] [(0,1,k 5),(1,1,k 16)]) 2,o e.c.f (.build [.int .u32 (.lit 0),.int .i64 (.lit 0),.int .i64 (.lit 0),.int .i64 (.lit 0),.int .i64 (.lit 0),.int .i64 (.lit 0),.int .i64 (.lit 0),.int .i64 (.lit 0),.int .i64 (.lit 0),.int .i64 (.lit 0),.int .i64 (.lit 0),.int .i64 (.lit 0),.int .i64 (.lit 0),.bool false,.bool false] [(0,1,.const (.int .u32 (.lit 3531603968))),(1,2,t e.c.a),(7,2,t e.c.b),(9,2,t e.c.c)]) 3,q (.store 15 (t e.b) (t e.c.f)) 4,o e.c (.move kt) 5]).seq NC.ret) ((reg [b e.f.b .eql (t e.b.b) (k 1) 0,m e.f.a e.f.b 1]).seq (NC.cond (t e.f.a) ((reg [o e.f.c (.loadN 2 (t e.f)) 0,o e.f.f (.build [.int .i64 (.lit 0),.int .i64 (.lit 0)] [(0,1,k 21),(1,1,k 2)]) 1,o e.a.a.a (.build [.int .i64 (.lit 0),.int .i64 (.lit 0)] [(0,1,k 5),(1,1,k 16)]) 2,o e.a.a.b (.build [.int .u32 (.lit 0),.int .i64 (.lit 0),.int .i64 (.lit 0),.int .i64 (.lit 0),.int .i64 (.lit 0),.int .i64 (.lit 0),.int .i64 (.lit 0),.int .i64 (.lit 0),.int .i64 (.lit 0),.int .i64 (.lit 0),.int .i64 (.lit 0),.int .i64 (.lit 0),.int .i64 (.lit 0),.bool false,.bool false] [(0,1,.const (.int .u32 (.lit 4068474880))),(1,2,t e.f.c),(7,2,t e.f.f),(9,2,t e.a.a.a)]) 3,q (.store 15 (t e.b) (t e.a.a.b)) 4,o e.c (.move kt) 5]).seq NC.ret) ((reg [b e.a.a.f .eql (t e.b.b) (k 2) 0,m e.a.a.c e.a.a.f 1]).seq (NC.cond (t e.a.a.c) ((reg [o e.a.b.a (.loadN 2 (t e.f)) 0,o e.a.b.b (.loadN 2 (t e.a.a)) 1,o e.a.b.c (.loadN 2 (t e.a.b)) 2,o e.a.b.f (.build [.int .u32 (.lit 0),.int .i64 (.lit 0),.int .i64 (.lit 0),.int .i64 (.lit 0),.int .i64 (.lit 0),.int .i64 (.lit 0),.int .i64 (.lit 0),.int .i64 (.lit 0),.int .i64 (.lit 0),.int .i64 (.lit 0),.int .i64 (.lit 0),.int .i64 (.lit 0),.int .i64 (.lit 0),.bool false,.bool false] [(0,1,.const (.int .u32 (.lit 2332033024))),(1,2,t e.a.b.a),(3,2,t e.a.b.b),(5,2,t e.a.b.c)]) 3,q (.store 15 (t e.b) (t e.a.b.f)) 4,o e.c (.move kt) 5]).seq NC.ret) ((reg [b e.a.c.b .eql (t e.b.b) (k 3) 0,m e.a.c.a e.a.c.b 1]).seq (NC.cond (t e.a.c.a) ((reg [o e.a.c.c (.loadN 2 (t e.f)) 0,o e.a.c.f (.loadN 2 (t e.a.a)) 1,o e.a.f.a (.loadN 2 (t e.a.b)) 2,o e.a.f.b (.build [.int .u32 (.lit 0),.int .i64 (.lit 0),.int .i64 (.lit 0),.int .i64 (.lit 0),.int .i64 (.lit 0),.int .i64 (.lit 0),.int .i64 (.lit 0),.int .i64 (.lit 0),.int .i64 (.lit 0),.int .i64 (.lit 0),.int .i64 (.lit 0),.int .i64 (.lit 0),.int .i64 (.lit 0),.bool false,.bool false] [(0,1,.const (.int .u32 (.lit 3405774848))),(1,2,t e.a.c.c),(3,2,t e.a.c.f),(5,2,t e.a.f.a)]) 3,q (.store 15 (t e.b) (t e.a.f.b)) 4,o e.c (.move kt) 5]).seq NC.ret) ((reg [b e.a.f.f .eql (t e.b.b) (k 4) 0,m e.a.f.c e.a.f.f 1]).seq (NC.cond (t e.a.f.c) ((reg [o e.b.a.a (.loadN 2 (t e.f)) 0,o e.b.a.b (.loadN 2 (t e.a.a)) 1,o e.b.a.c (.loadN 2 (t e.a.b)) 2,o e.b.a.f (.build [.int .u32 (.lit 0),.int .i64 (.lit 0),.int .i64 (.lit 0),.int .i64 (.lit 0),.int .i64 (.lit 0),.int .i64 (.lit 0),.int .i64 (.lit 0),.int .i64 (.lit 0),.int .i64 (.lit 0),.int .i64 (.lit 0),.int .i64 (.lit 0),.int .i64 (.lit 0),.int .i64 (.lit 0),.bool false,.bool false] [(0,1,.const (.int .u32 (.lit 2600500224))),(1,2,t e.b.a.a),(3,2,t e.b.a.b),(5,2,t e.b.a.c)]) 3,q (.store 15 (t e.b) (t e.b.a.f)) 4,o e.c (.move kt) 5]).seq NC.ret) ((reg [b e.b.b.b .eql (t e.b.b) (k 5) 0,m e.b.b.a e.b.b.b 1]).seq (NC.cond (t e.b.b.a) ((reg [o e.b.b.c (.loadN 2 (t e.f)) 0,o e.b.b.f (.loadN 2 (t e.a.a)) 1,o e.b.c.a (.loadN 2 (t e.a.b)) 2,o e.b.c.b (.build [.int .u32 (.lit 0),.int .i64 (.lit 0),.int .i64 (.lit 0),.int .i64 (.lit 0),.int .i64 (.lit 0),.int .i64 (.lit 0),.int .i64 (.lit 0),.int .i64 (.lit 0),.int .i64 (.lit 0),.int .i64 (.lit 0),.int .i64 (.lit 0),.int .i64 (.lit 0),.int .i64 (.lit 0),.bool false,.bool false] [(0,1,.const (.int .u32 (.lit 2315255808))),(1,2,t e.b.b.c),(3,2,t e.b.b.f),(5,2,t e.b.c.a)]) 3,q (.store 15 (t e.b) (t e.b.c.b)) 4,o e.c (.move kt) 5]).seq NC.ret) ((reg [b e.b.c.f .eql (t e.b.b) (k 6) 0,m e.b.c.c e.b.c.f 1]).seq (NC.cond (t e.b.c.c) ((reg [o e.b.f.a (.loadN 2 (t e.a.a)) 0,o e.b.f.b (.loadN 2 (t e.a.b)) 1,o e.b.f.c (.build [.int .u32 (.lit 0),.int .i64 (.lit 0),.int .i64 (.lit 0),.int .i64 (.lit 0),.int .i64 (.lit 0),.int .i64 (.lit 0),.int .i64 (.lit 0),.int .i64 (.lit 0),.int .i64 (.lit 0),.int .i64 (.lit 0),.int .i64 (.lit 0),.int .i64 (.lit 0),.int .i64 (.lit 0),.bool false,.bool false] [(0,1,.const (.int .u32 (.lit 3942645791))),(3,2,t e.b.f.a),(5,2,t e.b.f.b)]) 2,q (.store 15 (t e.b) (t e.b.f.c)) 3,o e.c (.move kt) 4]).seq NC.ret) ((reg [b e.c.a.a .eql (t e.b.b) (k 7) 0,m e.b.f.f e.c.a.a 1]).seq (NC.cond (t e.b.f.f) ((reg [o e.c.a.b (.loadN 2 (t e.f)) 0,o e.c.a.c (.build [.int .i64 (.lit 0),.int .i64 (.lit 0)] [(0,1,k 12),(1,1,k 4)]) 1,o e.c.a.f (.build [.int .u32 (.lit 0),.int .i64 (.lit 0),.int .i64 (.lit 0),.int .i64 (.lit 0),.int .i64 (.lit 0),.int .i64 (.lit 0),.int .i64 (.lit 0),.int .i64 (.lit 0),.int .i64 (.lit 0),.int .i64 (.lit 0),.int .i64 (.lit 0),.int .i64 (.lit 0),.int .i64 (.lit 0),.bool false,.bool false] [(0,1,.const (.int .u32 (.lit 2594113504))),(1,2,t e.c.a.b),(11,2,t e.c.a.c),(14,1,.const (.bool true))]) 2,q (.store 15 (t e.b) (t e.c.a.f)) 3,o e.c (.move kt) 4]).seq NC.ret) ((reg [b e.c.b.b .eql (t e.b.b) (k 8) 0,m e.c.b.a e.c.b.b 1]).seq (NC.cond (t e.c.b.a) ((reg [o e.c.b.c (.build [.int .i64 (.lit 0),.int .i64 (.lit 0)] [(0,1,k 0),(1,1,k 26)]) 0,o e.c.b.f (.build [.int .u32 (.lit 0),.int .i64 (.lit 0),.int .i64 (.lit 0),.int .i64 (.lit 0),.int .i64 (.lit 0),.int .i64 (.lit 0),.int .i64 (.lit 0),.int .i64 (.lit 0),.int .i64 (.lit 0),.int .i64 (.lit 0),.int .i64 (.lit 0),.int .i64 (.lit 0),.int .i64 (.lit 0),.bool false,.bool false] [(0,1,.const (.int .u32 (.lit 335544320))),(9,2,t e.c.b.c),(13,1,.const (.bool true))]) 1,q (.store 15 (t e.b) (t e.c.b.f)) 2,o e.c (.move kt) 3]).seq NC.ret) ((reg [b e.c.c.b .eql (t e.b.b) (k 9) 0,m e.c.c.a e.c.c.b 1]).seq (NC.cond (t e.c.c.a) ((reg [o e.c.c.c (.build [.int .i64 (.lit 0),.int .i64 (.lit 0)] [(0,1,k 5),(1,1,k 19)]) 0,o e.c.c.f (.build [.int .i64 (.lit 0),.int .i64 (.lit 0)] [(0,1,k 0),(1,1,k 4)]) 1,o e.c.f.a (.build [.int .u32 (.lit 0),.int .i64 (.lit 0),.int .i64 (.lit 0),.int .i64 (.lit 0),.int .i64 (.lit 0),.int .i64 (.lit 0),.int .i64 (.lit 0),.int .i64 (.lit 0),.int .i64 (.lit 0),.int .i64 (.lit 0),.int .i64 (.lit 0),.int .i64 (.lit 0),.int .i64 (.lit 0),.bool false,.bool false] [(0,1,.const (.int .u32 (.lit 1409286144))),(9,2,t e.c.c.c),(11,2,t e.c.c.f),(13,1,.const (.bool true))]) 2,q (.store 15 (t e.b) (t e.c.f.a)) 3,o e.c (.move kt) 4]).seq NC.ret) ((reg [b e.c.f.c .eql (t e.b.b) (k 10) 0,m e.c.f.b e.c.f.c 1]).seq (NC.cond (t e.c.f.b) ((reg [o e.c.f.f (.loadN 2 (t e.f)) 0,o e.f.a.a (.build [.int .i64 (.lit 0),.int .i64 (.lit 0)] [(0,1,k 5),(1,1,k 19)]) 1,o e.f.a.b (.build [.int .u32 (.lit 0),.int .i64 (.lit 0),.int .i64 (.lit 0),.int .i64 (.lit 0),.int .i64 (.lit 0),.int .i64 (.lit 0),.int .i64 (.lit 0),.int .i64 (.lit 0),.int .i64 (.lit 0),.int .i64 (.lit 0),.int .i64 (.lit 0),.int .i64 (.lit 0),.int .i64 (.lit 0),.bool false,.bool false] [(0,1,.const (.int .u32 (.lit 3019898880))),(3,2,t e.c.f.f),(9,2,t e.f.a.a),(13,1,.const (.bool true))]) 2,q (.store 15 (t e.b) (t e.f.a.b)) 3,o e.c (.move kt) 4]).seq NC.ret) ((reg [b e.f.a.f .eql (t e.b.b) (k 11) 0,m e.f.a.c e.f.a.f 1]).seq (NC.cond (t e.f.a.c) ((reg [o e.f.b.a (.loadN 2 (t e.f)) 0,o e.f.b.b (.build [.int .i64 (.lit 0),.int .i64 (.lit 0)] [(0,1,k 5),(1,1,k 19)]) 1,o e.f.b.c (.build [.int .u32 (.lit 0),.int .i64 (.lit 0),.int .i64 (.lit 0),.int .i64 (.lit 0),.int .i64 (.lit 0),.int .i64 (.lit 0),.int .i64 (.lit 0),.int .i64 (.lit 0),.int .i64 (.lit 0),.int .i64 (.lit 0),.int .i64 (.lit 0),.int .i64 (.lit 0),.int .i64 (.lit 0),.bool false,.bool false] [(0,1,.const (.int .u32 (.lit 3036676096))),(3,2,t e.f.b.a),(9,2,t e.f.b.b),(13,1,.const (.bool true))]) 2,q (.store 15 (t e.b) (t e.f.b.c)) 3,o e.c (.move kt) 4]).seq NC.ret) ((reg [b e.f.c.a .eql (t e.b.b) (k 12) 0,m e.f.b.f e.f.c.a 1]).seq (NC.cond (t e.f.b.f) ((reg [o e.f.c.b (.loadN 2 (t e.f)) 0,o e.f.c.c (.loadN 2 (t e.a.a)) 1,o e.f.c.f (.build [.int .i64 (.lit 0),.int .i64 (.lit 0)] [(0,1,k 10),(1,1,k 12)]) 2,o e.f.f.a (.build [.int .u32 (.lit 0),.int .i64 (.lit 0),.int .i64 (.lit 0),.int .i64 (.lit 0),.int .i64 (.lit 0),.int .i64 (.lit 0),.int .i64 (.lit 0),.int .i64 (.lit 0),.int .i64 (.lit 0),.int .i64 (.lit 0),.int .i64 (.lit 0),.int .i64 (.lit 0),.int .i64 (.lit 0),.bool false,.bool false] [(0,1,.const (.int .u32 (.lit 4181721088))),(1,2,t e.f.c.b),(3,2,t e.f.c.c),(9,2,t e.f.c.f)]) 3,q (.store 15 (t e.b) (t e.f.f.a)) 4,o e.c (.move kt) 5]).seq NC.ret) ((reg [b e.f.f.c .eql (t e.b.b) (k 13) 0,m e.f.f.b e.f.f.c 1]).seq (NC.cond (t e.f.f.b) ((reg [o e.f.f.f (.loadN 2 (t e.f)) 0,o e.a.a.a.a (.loadN 2 (t e.a.a)) 1,o e.a.a.a.b (.build [.int .i64 (.lit 0),.int .i64 (.lit 0)] [(0,1,k 10),(1,1,k 12)]) 2,o e.a.a.a.c (.build [.int .u32 (.lit 0),.int .i64 (.lit 0),.int .i64 (.lit 0),.int .i64 (.lit 0),.int .i64 (.lit 0),.int .i64 (.lit 0),.int .i64 (.lit 0),.int .i64 (.lit 0),.int .i64 (.lit 0),.int .i64 (.lit 0),.int .i64 (.lit 0),.int .i64 (.lit 0),.int .i64 (.lit 0),.bool false,.bool false] [(0,1,.const (.int .u32 (.lit 4177526784))),(1,2,t e.f.f.f),(3,2,t e.a.a.a.a),(9,2,t e.a.a.a.b)]) 3,q (.store 15 (t e.b) (t e.a.a.a.c)) 4,o e.c (.move kt) 5]).seq NC.ret) ((reg [b e.a.a.b.a .eql (t e.b.b) (k 14) 0,m e.a.a.a.f e.a.a.b.a 1]).seq (NC.cond (t e.a.a.a.f) ((reg [o e.a.a.b.b (.loadN 2 (t e.f)) 0,o e.a.a.b.c (.loadN 2 (t e.a.a)) 1,o e.a.a.b.f (.build [.int .u32 (.lit 0),.int .i64 (.lit 0),.int .i64 (.lit 0),.int .i64 (.lit 0),.int .i64 (.lit 0),.int .i64 (.lit 0),.int .i64 (.lit 0),.int .i64 (.lit 0),.int .i64 (.lit 0),.int .i64 (.lit 0),.int .i64 (.lit 0),.int .i64 (.lit 0),.int .i64 (.lit 0),.bool false,.bool false] [(0,1,.const (.int .u32 (.lit 3370122240))),(1,2,t e.a.a.b.b),(3,2,t e.a.a.b.c)]) 2,q (.store 15 (t e.b) (t e.a.a.b.f)) 3,o e.c (.move kt) 4]).seq NC.ret) ((reg [b e.a.a.c.b .eql (t e.b.b) (k 15) 0,m e.a.a.c.a e.a.a.c.b 1]).seq (NC.cond (t e.a.a.c.a) ((reg [o e.a.a.c.c (.loadN 2 (t e.f)) 0,o e.a.a.c.f (.loadN 2 (t e.a.a)) 1,o e.a.a.f.a (.build [.int .u32 (.lit 0),.int .i64 (.lit 0),.int .i64 (.lit 0),.int .i64 (.lit 0),.int .i64 (.lit 0),.int .i64 (.lit 0),.int .i64 (.lit 0),.int .i64 (.lit 0),.int .i64 (.lit 0),.int .i64 (.lit 0),.int .i64 (.lit 0),.int .i64 (.lit 0),.int .i64 (.lit 0),.bool false,.bool false] [(0,1,.const (.int .u32 (.lit 3365927936))),(1,2,t e.a.a.c.c),(3,2,t e.a.a.c.f)]) 2,q (.store 15 (t e.b) (t e.a.a.f.a)) 3,o e.c (.move kt) 4]).seq NC.ret) ((reg [b e.a.a.f.c .eql (t e.b.b) (k 16) 0,m e.a.a.f.b e.a.a.f.c 1]).seq (NC.cond (t e.a.a.f.b) ((reg [o e.a.a.f.f (.loadN 2 (t e.f)) 0,o e.a.b.a.a (.loadN 2 (t e.a.a)) 1,o e.a.b.a.b (.build [.int .u32 (.lit 0),.int .i64 (.lit 0),.int .i64 (.lit 0),.int .i64 (.lit 0),.int .i64 (.lit 0),.int .i64 (.lit 0),.int .i64 (.lit 0),.int .i64 (.lit 0),.int .i64 (.lit 0),.int .i64 (.lit 0),.int .i64 (.lit 0),.int .i64 (.lit 0),.int .i64 (.lit 0),.bool false,.bool false] [(0,1,.const (.int .u32 (.lit 3361700864))),(1,2,t e.a.a.f.f),(3,2,t e.a.b.a.a)]) 2,q (.store 15 (t e.b) (t e.a.b.a.b)) 3,o e.c (.move kt) 4]).seq NC.ret) ((reg [b e.a.b.a.f .eql (t e.b.b) (k 17) 0,m e.a.b.a.c e.a.b.a.f 1]).seq (NC.cond (t e.a.b.a.c) ((reg [o e.a.b.b.a (.loadN 2 (t e.f)) 0,o e.a.b.b.b (.loadN 2 (t e.a.a)) 1,o e.a.b.b.c (.loadN 2 (t e.a.b)) 2,o e.a.b.b.f (.build [.int .u32 (.lit 0),.int .i64 (.lit 0),.int .i64 (.lit 0),.int .i64 (.lit 0),.int .i64 (.lit 0),.int .i64 (.lit 0),.int .i64 (.lit 0),.int .i64 (.lit 0),.int .i64 (.lit 0),.int .i64 (.lit 0),.int .i64 (.lit 0),.int .i64 (.lit 0),.int .i64 (.lit 0),.bool false,.bool false] [(0,1,.const (.int .u32 (.lit 3355474944))),(1,2,t e.a.b.b.a),(3,2,t e.a.b.b.b),(7,2,t e.a.b.b.c)]) 3,q (.store 15 (t e.b) (t e.a.b.b.f)) 4,o e.c (.move kt) 5]).seq NC.ret) ((reg [b e.a.b.c.b .eql (t e.b.b) (k 18) 0,m e.a.b.c.a e.a.b.c.b 1]).seq (NC.cond (t e.a.b.c.a) ((reg [o e.a.b.c.c (.build [.int .u32 (.lit 0),.int .i64 (.lit 0),.int .i64 (.lit 0),.int .i64 (.lit 0),.int .i64 (.lit 0),.int .i64 (.lit 0),.int .i64 (.lit 0),.int .i64 (.lit 0),.int .i64 (.lit 0),.int .i64 (.lit 0),.int .i64 (.lit 0),.int .i64 (.lit 0),.int .i64 (.lit 0),.bool false,.bool false] [(0,1,.const (.int .u32 (.lit 3573758911)))]) 0,q (.store 15 (t e.b) (t e.a.b.c.c)) 1,o e.c (.move kt) 2]).seq NC.ret) ((reg [b e.a.b.f.a .eql (t e.b.b) (k 19) 0,m e.a.b.c.f e.a.b.f.a 1]).seq (NC.cond (t e.a.b.c.f) ((reg [o e.a.b.f.b (.build [.int .u32 (.lit 0),.int .i64 (.lit 0),.int .i64 (.lit 0),.int .i64 (.lit 0),.int .i64 (.lit 0),.int .i64 (.lit 0),.int .i64 (.lit 0),.int .i64 (.lit 0),.int .i64 (.lit 0),.int .i64 (.lit 0),.int .i64 (.lit 0),.int .i64 (.lit 0),.int .i64 (.lit 0),.bool false,.bool false] [(0,1,.const (.int .u32 (.lit 3573758879)))]) 0,q (.store 15 (t e.b) (t e.a.b.f.b)) 1,o e.c (.move kt) 2]).seq NC.ret) ((reg [b e.a.b.f.f .eql (t e.b.b) (k 20) 0,m e.a.b.f.c e.a.b.f.f 1]).seq (NC.cond (t e.a.b.f.c) ((reg [o e.a.c.a.a (.loadN 2 (t e.f)) 0,o e.a.c.a.b (.build [.int .u32 (.lit 0),.int .i64 (.lit 0),.int .i64 (.lit 0),.int .i64 (.lit 0),.int .i64 (.lit 0),.int .i64 (.lit 0),.int .i64 (.lit 0),.int .i64 (.lit 0),.int .i64 (.lit 0),.int .i64 (.lit 0),.int .i64 (.lit 0),.int .i64 (.lit 0),.int .i64 (.lit 0),.bool false,.bool false] [(0,1,.const (.int .u32 (.lit 3574299680))),(3,2,t e.a.c.a.a)]) 1,q (.store 15 (t e.b) (t e.a.c.a.b)) 2,o e.c (.move kt) 3]).seq NC.ret) ((reg [b e.a.c.a.f .eql (t e.b.b) (k 21) 0,m e.a.c.a.c e.a.c.a.f 1]).seq (NC.cond (t e.a.c.a.c) ((reg [o e.a.c.b.a (.build [.int .u32 (.lit 0),.int .i64 (.lit 0),.int .i64 (.lit 0),.int .i64 (.lit 0),.int .i64 (.lit 0),.int .i64 (.lit 0),.int .i64 (.lit 0),.int .i64 (.lit 0),.int .i64 (.lit 0),.int .i64 (.lit 0),.int .i64 (.lit 0),.int .i64 (.lit 0),.int .i64 (.lit 0),.bool false,.bool false] [(0,1,.const (.int .u32 (.lit 3573751839)))]) 0,q (.store 15 (t e.b) (t e.a.c.b.a)) 1,o e.c (.move kt) 2]).seq NC.ret) ((reg [b e.a.c.b.c .eql (t e.b.b) (k 22) 0,m e.a.c.b.b e.a.c.b.c 1]).seq (NC.cond (t e.a.c.b.b) ((reg [o e.a.c.b.f (.build [.int .u32 (.lit 0),.int .i64 (.lit 0),.int .i64 (.lit 0),.int .i64 (.lit 0),.int .i64 (.lit 0),.int .i64 (.lit 0),.int .i64 (.lit 0),.int .i64 (.lit 0),.int .i64 (.lit 0),.int .i64 (.lit 0),.int .i64 (.lit 0),.int .i64 (.lit 0),.int .i64 (.lit 0),.bool false,.bool false] [(0,1,.const (.int .u32 (.lit 3560964096)))]) 0,q (.store 15 (t e.b) (t e.a.c.b.f)) 1,o e.c (.move kt) 2]).seq NC.ret) ((reg [b e.a.c.c.b .eql (t e.b.b) (k 23) 0,m e.a.c.c.a e.a.c.c.b 1]).seq (NC.cond (t e.a.c.c.a) ((reg [o e.a.c.c.c (.build [.int .u32 (.lit 0),.int .i64 (.lit 0),.int .i64 (.lit 0),.int .i64 (.lit 0),.int .i64 (.lit 0),.int .i64 (.lit 0),.int .i64 (.lit 0),.int .i64 (.lit 0),.int .i64 (.lit 0),.int .i64 (.lit 0),.int .i64 (.lit 0),.int .i64 (.lit 0),.int .i64 (.lit 0),.bool false,.bool false] [(0,1,.const (.int .u32 (.lit 3556769793)))]) 0,q (.store 15 (t e.b) (t e.a.c.c.c)) 1,o e.c (.move kt) 2]).seq NC.ret) NC.skip)))))))))))))))))))))))))))))))))))))))))))))))))).seq ((reg [o e.a.c.c.f (.build [.int .u32 (.lit 0),.int .i64 (.lit 0),.int .i64 (.lit 0),.int .i64 (.lit 0),.int .i64 (.lit 0),.int .i64 (.lit 0),.int .i64 (.lit 0),.int .i64 (.lit 0),.int .i64 (.lit 0),.int .i64 (.lit 0),.int .i64 (.lit 0),.int .i64 (.lit 0),.int .i64 (.lit 0),.bool false,.bool false] []) 0,q (.store 15 (t e.b) (t e.a.c.c.f)) 1,o e.c (.move kf) 2]).seq NC.ret))))),129, [.cellN e.b 15,.tmp e.c]⟩
theorem xr:ak Tryd.prog 23=some (.code Cw):=by kernel_rfl
noncomputable def Aq:NFun:=⟨(reg [o e.f (.move kf) 0]).seq ((reg [m e.a.a e 0,b e.a.b .geq (t e.a.a) (k 0) 1,m e.a.c e.a.b 2,G e.a.f (.move (t e)) e.a.c true 3,G e.b.a (.move (t e.a)) e.a.c true 4,G e.b.b (.call (F 42) [t e.b.a,k 0,k 32]) e.a.c true 5,G e.b.c (.toInt .u64 (t e.b.b)) e.a.c true 6,G e.b.f (.bin .num .shl (k 1) (t e.b.c)) e.a.c true 7,G e.c.a (.bin .num .lss (t e.a.f) (t e.b.f)) e.a.c true 8,o e.c.b (.pick (t e.a.c) (t e.c.a) kf) 9,m e.f e.c.b 10]).seq NC.ret),15, [.tmp e.f]⟩
theorem qh:ak Tryd.prog 24=some (.code Aq):=by kernel_rfl
noncomputable def zr:NFun:=⟨(reg [o e.f (.move kf) 0]).seq ((reg [m e.a.a e.a 0,o e.a.b (.call (F 42) [t e.a.a,k 0,k 32]) 1,m e.a e.a.b 2]).seq (((reg [m e.a.c e.a 0,b e.a.f .eql (t e.a.c) (k 0) 1]).seq (NC.cond (t e.a.f) ((reg [m e.b.a e 0,b e.b.b .eql (t e.b.a) (k 0) 1,m e.f e.b.b 2]).seq NC.ret) NC.skip)).seq ((reg [m e.b.c e 0,m e.b.f e.a 1,b e.c.a .sub (t e.b.f) (k 1) 2,o e.c.b (.toInt .u64 (t e.c.a)) 3,b e.c.c .shl (k (-1)) (t e.c.b) 4,b e.c.f .geq (t e.b.c) (t e.c.c) 5,m e.f.a e.c.f 6,G e.f.b (.move (t e)) e.f.a true 7,G e.f.c (.move (t e.a)) e.f.a true 8,G e.f.f (.bin .num .sub (t e.f.c) (k 1)) e.f.a true 9,G e.a.a.a (.toInt .u64 (t e.f.f)) e.f.a true 10,G e.a.a.b (.bin .num .shl (k 1) (t e.a.a.a)) e.f.a true 11,G e.a.a.c (.bin .num .lss (t e.f.b) (t e.a.a.b)) e.f.a true 12,o e.a.a.f (.pick (t e.f.a) (t e.a.a.c) kf) 13,m e.f e.a.a.f 14]).seq NC.ret))),25, [.tmp e.f]⟩
theorem qo:ak Tryd.prog 25=some (.code zr):=by kernel_rfl
noncomputable def A7:NFun:=⟨(reg [o e.f (.move kn) 0]).seq ((reg [m e.a.a e 0,m e.a.b e.a 1,o e.a.c (.call (F 43) [t e.a.a,t e.a.b,k 0,k (-1)]) 2,m e.f e.a.c 3]).seq NC.ret),8, [.tmp e.f]⟩
theorem wa:ak Tryd.prog 26=some (.code A7):=by kernel_rfl
noncomputable def xi:NC:=((reg [b e.b.a .lss (t e.a.f) (t e.a.c) 0]).seq ((NC.cond (t e.b.a) NC.skip (NC.exit 0)).seq ((NC.block 1 ((reg [m e.b.b e.a.f 0,m e.a.a e.b.b 1]).seq ((reg [m e.b.c e.a 0,m e.b.f e 1,m e.c.a e.a.a 2,o e.c.b (.indexSlc 2 (t e.b.f) (t e.c.a)) 3,o e.c.c (.loadN 2 (t e.c.b)) 4,o e.c.f (.call (t e.b.c) [t e.c.c]) 5]).seq (NC.cond (t e.c.f) ((reg [m e.f.a e.a.a 0,m e.f e.f.a 1]).seq NC.ret) NC.skip)))).seq (reg [b e.f.b .add (t e.a.f) (k 1) 0,m e.a.f e.f.b 1]))))
noncomputable def Cr:NFun:=⟨(reg [o e.f (.move (k 0)) 0]).seq (((reg [m e.a.b e 0,L e.a.c e.a.b 1,o e.a.f (.move (k 0)) 2]).seq (NC.block 0 xi.loop)).seq ((reg [o e.f (.move (k (-1))) 0]).seq NC.ret)),19, [.tmp e.f]⟩
theorem xO:ak Tryd.prog 27=some (.code Cr):=by kernel_rfl
noncomputable def Cu:NFun:=⟨(reg [o e.b (.box (t e) 46) 0,o e.c (.move kf) 1]).seq ((regD [f 0 e.f e.b 0,O e.a.a (.load1 (t e.f)) 1 1,l e.a.b e.a 2,O e.a.c (.indexSlc 1 (t e.a.b) (k 0)) 4 3,O e.a.f (.load1 (t e.a.c)) 12 4,O e.b.a (.bin .num .eql (t e.a.a) (t e.a.f)) 31 5,O e.c (.move (t e.b.a)) 63 6]).seq NC.ret),10, [.tmp e.c]⟩
theorem wH:ak Tryd.prog 28=some (.code Cu):=by kernel_rfl
noncomputable def AM:NFun:=⟨(reg [o e.b (.move (k 0)) 0,o e.c (.move (.const .nili)) 1]).seq ((reg [m e.a.c e 0,o e.a.f (.call (F 44) [t e.a.c]) 1,m e.a.b e.a.f 2,x e.b.a e.a.b 0 3,x e.b.b e.a.b 1 4,m e.f e.b.a 5,m e.a.a e.b.b 6]).seq (((reg [m e.b.c e.a.a 0,o e.b.f (.bin .ifc .neq (t e.b.c) (.const .nili)) 1]).seq (NC.cond (t e.b.f) ((reg [m e.c.a e.f 0,m e.c.b e 1,m e.c.c e.a.a 2,o e.c.f (.call (F 45) [.const (.str [65,116,111,105]),t e.c.b,k 0,k 0,t e.c.c]) 3,m e.b e.c.a 4,m e.c e.c.f 5]).seq NC.ret) NC.skip)).seq ((reg [m e.f.a e.f 0,m e.b e.f.a 1,o e.c (.move (.const .nili)) 2]).seq NC.ret))),18, [.tmp e.b,.tmp e.c]⟩
theorem vp:ak Tryd.prog 29=some (.code AM):=by kernel_rfl
noncomputable def Ba:NFun:=⟨(reg [o e (.move kn) 0]).seq ((reg [o e.b.b (.call (F 58) [k 0]) 0,o e.b.c (.call (F 58) [k 5]) 1,o e.b.f (.call (F 58) [k 16]) 2,o e.a (.alloc [.int .i64 (.lit 0),.int .i64 (.lit 0)] 103) 3,o e.b (.alloc [.int .i64 (.lit 0),.int .i64 (.lit 0)] 103) 4,o e.c (.alloc [.int .i64 (.lit 0),.int .i64 (.lit 0)] 103) 5,q (.store 2 (t e.a) (t e.b.b)) 6,q (.store 2 (t e.b) (t e.b.c)) 7,q (.store 2 (t e.c) (t e.b.f)) 8]).seq ((reg [o e.c.a (.mkFn 59 [t e.a]) 0,m e.f e.c.a 1]).seq ((reg [o e.c.b (.mkFn 60 [t e.a,t e.b,t e.c]) 0,m e.a.a e.c.b 1]).seq ((reg [o e.a.b (.move (F 61)) 0]).seq ((reg [o e.c.c (.mkFn 62 [t e.a,t e.b]) 0,m e.a.c e.c.c 1]).seq ((reg [o e.c.f (.mkFn 63 [t e.a,t e.b]) 0,m e.a.f e.c.f 1]).seq ((reg [o e.b.a (.move (F 64)) 0]).seq ((regD [m e.f.a e.f 0,m e.f.c e.f 2,m e.a.a.a e.a.a 4,m e.a.a.c e.a.a 6,m e.a.b.a e.a.a 8,m e.a.b.c e.a.a 10,o e.a.c.a (.loadN 2 (t e.b)) 12,o e.a.c.b (.loadN 2 (t e.c)) 13,O e.a.c.c (.build [.int .u32 (.lit 0),.int .i64 (.lit 0),.int .i64 (.lit 0),.int .i64 (.lit 0),.int .i64 (.lit 0),.int .i64 (.lit 0),.int .i64 (.lit 0),.int .i64 (.lit 0),.int .i64 (.lit 0),.int .i64 (.lit 0),.int .i64 (.lit 0),.int .i64 (.lit 0),.int .i64 (.lit 0),.bool false,.bool false] [(0,1,.const (.int .u32 (.lit 3942645791))),(3,2,t e.a.c.a),(5,2,t e.a.c.b)]) 12288 14,o e.a.c.f (.loadN 2 (t e.a)) 15,o e.a.f.a (.build [.int .i64 (.lit 0),.int .i64 (.lit 0)] [(0,1,k 12),(1,1,k 4)]) 16,O e.a.f.b (.build [.int .u32 (.lit 0),.int .i64 (.lit 0),.int .i64 (.lit 0),.int .i64 (.lit 0),.int .i64 (.lit 0),.int .i64 (.lit 0),.int .i64 (.lit 0),.int .i64 (.lit 0),.int .i64 (.lit 0),.int .i64 (.lit 0),.int .i64 (.lit 0),.int .i64 (.lit 0),.int .i64 (.lit 0),.bool false,.bool false] [(0,1,.const (.int .u32 (.lit 2594113504))),(1,2,t e.a.c.f),(11,2,t e.a.f.a),(14,1,.const (.bool true))]) 98304 17,o e.a.f.c (.build [.int .i64 (.lit 0),.int .i64 (.lit 0)] [(0,1,k 0),(1,1,k 26)]) 18,O e.a.f.f (.build [.int .u32 (.lit 0),.int .i64 (.lit 0),.int .i64 (.lit 0),.int .i64 (.lit 0),.int .i64 (.lit 0),.int .i64 (.lit 0),.int .i64 (.lit 0),.int .i64 (.lit 0),.int .i64 (.lit 0),.int .i64 (.lit 0),.int .i64 (.lit 0),.int .i64 (.lit 0),.int .i64 (.lit 0),.bool false,.bool false] [(0,1,.const (.int .u32 (.lit 335544320))),(9,2,t e.a.f.c),(13,1,.const (.bool true))]) 262144 19,o e.b.a.a (.build [.int .i64 (.lit 0),.int .i64 (.lit 0)] [(0,1,k 5),(1,1,k 19)]) 20,o e.b.a.b (.build [.int .i64 (.lit 0),.int .i64 (.lit 0)] [(0,1,k 0),(1,1,k 4)]) 21,O e.b.a.c (.build [.int .u32 (.lit 0),.int .i64 (.lit 0),.int .i64 (.lit 0),.int .i64 (.lit 0),.int .i64 (.lit 0),.int .i64 (.lit 0),.int .i64 (.lit 0),.int .i64 (.lit 0),.int .i64 (.lit 0),.int .i64 (.lit 0),.int .i64 (.lit 0),.int .i64 (.lit 0),.int .i64 (.lit 0),.bool false,.bool false] [(0,1,.const (.int .u32 (.lit 1409286144))),(9,2,t e.b.a.a),(13,1,.const (.bool true)),(11,2,t e.b.a.b)]) 3145728 22,m e.b.a.f e.a.b 23,m e.b.b.b e.a.b 25,m e.b.b.f e.a.c 27,m e.b.c.b e.a.c 29,m e.b.c.f e.a.f 31,m e.b.f.b e.a.f 33,m e.b.f.f e.a.f 35,o e.c.a.b (.loadN 2 (t e.a)) 37,o e.c.a.c (.loadN 2 (t e.b)) 38,m e.c.b.b e.b.a 41,m e.c.b.f e.b.a 43,m e.c.c.f e.b.a 47,m e.c.f.b e.b.a 49,m e.c.f.f e.b.a 51,O e.f.b (.call (t e.f.a) [.const (.int .u32 (.lit 3531603968))]) 1 1,O e.f.f (.call (t e.f.c) [.const (.int .u32 (.lit 4068474880))]) 7 3,O e.a.a.b (.call (t e.a.a.a) [.const (.int .u32 (.lit 2332033024))]) 31 5,O e.a.a.f (.call (t e.a.a.c) [.const (.int .u32 (.lit 3405774848))]) 127 7,O e.a.b.b (.call (t e.a.b.a) [.const (.int .u32 (.lit 2600500224))]) 511 9,O e.a.b.f (.call (t e.a.b.c) [.const (.int .u32 (.lit 2315255808))]) 2047 11,O e.b.b.a (.call (t e.b.a.f) [.const (.int .u32 (.lit 3019898880))]) 8392703 24,O e.b.b.c (.call (t e.b.b.b) [.const (.int .u32 (.lit 3036676096))]) 58724351 26,O e.b.c.a (.call (t e.b.b.f) [.const (.int .u32 (.lit 4181721088))]) 260050943 28,O e.b.c.c (.call (t e.b.c.b) [.const (.int .u32 (.lit 4177526784))]) 1065357311 30,O e.b.f.a (.call (t e.b.c.f) [.const (.int .u32 (.lit 3370122240))]) 4286582783 32,O e.b.f.c (.call (t e.b.f.b) [.const (.int .u32 (.lit 3365927936))]) 17171484671 34,O e.c.a.a (.call (t e.b.f.f) [.const (.int .u32 (.lit 3361700864))]) 68711092223 36,O e.c.a.f (.call (F 58) [k 16]) 137430568959 39,O e.c.b.a (.build [.int .u32 (.lit 0),.int .i64 (.lit 0),.int .i64 (.lit 0),.int .i64 (.lit 0),.int .i64 (.lit 0),.int .i64 (.lit 0),.int .i64 (.lit 0),.int .i64 (.lit 0),.int .i64 (.lit 0),.int .i64 (.lit 0),.int .i64 (.lit 0),.int .i64 (.lit 0),.int .i64 (.lit 0),.bool false,.bool false] [(0,1,.const (.int .u32 (.lit 3355474944))),(1,2,t e.c.a.b),(3,2,t e.c.a.c),(7,2,t e.c.a.f)]) 1099503243263 40,O e.c.b.c (.call (t e.c.b.b) [.const (.int .u32 (.lit 3573758911))]) 2886209638399 42,O e.c.c.a (.call (t e.c.b.f) [.const (.int .u32 (.lit 3573758879))]) 16080349171711 44,O e.c.c.b (.call (F 58) [k 0]) 33672535216127 45,O e.c.c.c (.build [.int .u32 (.lit 0),.int .i64 (.lit 0),.int .i64 (.lit 0),.int .i64 (.lit 0),.int .i64 (.lit 0),.int .i64 (.lit 0),.int .i64 (.lit 0),.int .i64 (.lit 0),.int .i64 (.lit 0),.int .i64 (.lit 0),.int .i64 (.lit 0),.int .i64 (.lit 0),.int .i64 (.lit 0),.bool false,.bool false] [(0,1,.const (.int .u32 (.lit 3574299680))),(3,2,t e.c.c.b)]) 68856907304959 46,O e.c.f.a (.call (t e.c.c.f) [.const (.int .u32 (.lit 3573751839))]) 209594395660287 48,O e.c.f.c (.call (t e.c.f.b) [.const (.int .u32 (.lit 3560964096))]) 1054019325792255 50,O e.f.a.a (.call (t e.c.f.f) [.const (.int .u32 (.lit 3556769793))]) 4431719046320127 52,O e.f.a.b (.buildSlice [.int .u32 (.lit 0),.int .i64 (.lit 0),.int .i64 (.lit 0),.int .i64 (.lit 0),.int .i64 (.lit 0),.int .i64 (.lit 0),.int .i64 (.lit 0),.int .i64 (.lit 0),.int .i64 (.lit 0),.int .i64 (.lit 0),.int .i64 (.lit 0),.int .i64 (.lit 0),.int .i64 (.lit 0),.bool false,.bool false,.int .u32 (.lit 0),.int .i64 (.lit 0),.int .i64 (.lit 0),.int .i64 (.lit 0),.int .i64 (.lit 0),.int .i64 (.lit 0),.int .i64 (.lit 0),.int .i64 (.lit 0),.int .i64 (.lit 0),.int .i64 (.lit 0),.int .i64 (.lit 0),.int .i64 (.lit 0),.int .i64 (.lit 0),.bool false,.bool false,.int .u32 (.lit 0),.int .i64 (.lit 0),.int .i64 (.lit 0),.int .i64 (.lit 0),.int .i64 (.lit 0),.int .i64 (.lit 0),.int .i64 (.lit 0),.int .i64 (.lit 0),.int .i64 (.lit 0),.int .i64 (.lit 0),.int .i64 (.lit 0),.int .i64 (.lit 0),.int .i64 (.lit 0),.bool false,.bool false,.int .u32 (.lit 0),.int .i64 (.lit 0),.int .i64 (.lit 0),.int .i64 (.lit 0),.int .i64 (.lit 0),.int .i64 (.lit 0),.int .i64 (.lit 0),.int .i64 (.lit 0),.int .i64 (.lit 0),.int .i64 (.lit 0),.int .i64 (.lit 0),.int .i64 (.lit 0),.int .i64 (.lit 0),.bool false,.bool false,.int .u32 (.lit 0),.int .i64 (.lit 0),.int .i64 (.lit 0),.int .i64 (.lit 0),.int .i64 (.lit 0),.int .i64 (.lit 0),.int .i64 (.lit 0),.int .i64 (.lit 0),.int .i64 (.lit 0),.int .i64 (.lit 0),.int .i64 (.lit 0),.int .i64 (.lit 0),.int .i64 (.lit 0),.bool false,.bool false,.int .u32 (.lit 0),.int .i64 (.lit 0),.int .i64 (.lit 0),.int .i64 (.lit 0),.int .i64 (.lit 0),.int .i64 (.lit 0),.int .i64 (.lit 0),.int .i64 (.lit 0),.int .i64 (.lit 0),.int .i64 (.lit 0),.int .i64 (.lit 0),.int .i64 (.lit 0),.int .i64 (.lit 0),.bool false,.bool false,.int .u32 (.lit 0),.int .i64 (.lit 0),.int .i64 (.lit 0),.int .i64 (.lit 0),.int .i64 (.lit 0),.int .i64 (.lit 0),.int .i64 (.lit 0),.int .i64 (.lit 0),.int .i64 (.lit 0),.int .i64 (.lit 0),.int .i64 (.lit 0),.int .i64 (.lit 0),.int .i64 (.lit 0),.bool false,.bool false,.int .u32 (.lit 0),.int .i64 (.lit 0),.int .i64 (.lit 0),.int .i64 (.lit 0),.int .i64 (.lit 0),.int .i64 (.lit 0),.int .i64 (.lit 0),.int .i64 (.lit 0),.int .i64 (.lit 0),.int .i64 (.lit 0),.int .i64 (.lit 0),.int .i64 (.lit 0),.int .i64 (.lit 0),.bool false,.bool false,.int .u32 (.lit 0),.int .i64 (.lit 0),.int .i64 (.lit 0),.int .i64 (.lit 0),.int .i64 (.lit 0),.int .i64 (.lit 0),.int .i64 (.lit 0),.int .i64 (.lit 0),.int .i64 (.lit 0),.int .i64 (.lit 0),.int .i64 (.lit 0),.int .i64 (.lit 0),.int .i64 (.lit 0),.bool false,.bool false,.int .u32 (.lit 0),.int .i64 (.lit 0),.int .i64 (.lit 0),.int .i64 (.lit 0),.int .i64 (.lit 0),.int .i64 (.lit 0),.int .i64 (.lit 0),.int .i64 (.lit 0),.int .i64 (.lit 0),.int .i64 (.lit 0),.int .i64 (.lit 0),.int .i64 (.lit 0),.int .i64 (.lit 0),.bool false,.bool false,.int .u32 (.lit 0),.int .i64 (.lit 0),.int .i64 (.lit 0),.int .i64 (.lit 0),.int .i64 (.lit 0),.int .i64 (.lit 0),.int .i64 (.lit 0),.int .i64 (.lit 0),.int .i64 (.lit 0),.int .i64 (.lit 0),.int .i64 (.lit 0),.int .i64 (.lit 0),.int .i64 (.lit 0),.bool false,.bool false,.int .u32 (.lit 0),.int .i64 (.lit 0),.int .i64 (.lit 0),.int .i64 (.lit 0),.int .i64 (.lit 0),.int .i64 (.lit 0),.int .i64 (.lit 0),.int .i64 (.lit 0),.int .i64 (.lit 0),.int .i64 (.lit 0),.int .i64 (.lit 0),.int .i64 (.lit 0),.int .i64 (.lit 0),.bool false,.bool false,.int .u32 (.lit 0),.int .i64 (.lit 0),.int .i64 (.lit 0),.int .i64 (.lit 0),.int .i64 (.lit 0),.int .i64 (.lit 0),.int .i64 (.lit 0),.int .i64 (.lit 0),.int .i64 (.lit 0),.int .i64 (.lit 0),.int .i64 (.lit 0),.int .i64 (.lit 0),.int .i64 (.lit 0),.bool false,.bool false,.int .u32 (.lit 0),.int .i64 (.lit 0),.int .i64 (.lit 0),.int .i64 (.lit 0),.int .i64 (.lit 0),.int .i64 (.lit 0),.int .i64 (.lit 0),.int .i64 (.lit 0),.int .i64 (.lit 0),.int .i64 (.lit 0),.int .i64 (.lit 0),.int .i64 (.lit 0),.int .i64 (.lit 0),.bool false,.bool false,.int .u32 (.lit 0),.int .i64 (.lit 0),.int .i64 (.lit 0),.int .i64 (.lit 0),.int .i64 (.lit 0),.int .i64 (.lit 0),.int .i64 (.lit 0),.int .i64 (.lit 0),.int .i64 (.lit 0),.int .i64 (.lit 0),.int .i64 (.lit 0),.int .i64 (.lit 0),.int .i64 (.lit 0),.bool false,.bool false,.int .u32 (.lit 0),.int .i64 (.lit 0),.int .i64 (.lit 0),.int .i64 (.lit 0),.int .i64 (.lit 0),.int .i64 (.lit 0),.int .i64 (.lit 0),.int .i64 (.lit 0),.int .i64 (.lit 0),.int .i64 (.lit 0),.int .i64 (.lit 0),.int .i64 (.lit 0),.int .i64 (.lit 0),.bool false,.bool false,.int .u32 (.lit 0),.int .i64 (.lit 0),.int .i64 (.lit 0),.int .i64 (.lit 0),.int .i64 (.lit 0),.int .i64 (.lit 0),.int .i64 (.lit 0),.int .i64 (.lit 0),.int .i64 (.lit 0),.int .i64 (.lit 0),.int .i64 (.lit 0),.int .i64 (.lit 0),.int .i64 (.lit 0),.bool false,.bool false,.int .u32 (.lit 0),.int .i64 (.lit 0),.int .i64 (.lit 0),.int .i64 (.lit 0),.int .i64 (.lit 0),.int .i64 (.lit 0),.int .i64 (.lit 0),.int .i64 (.lit 0),.int .i64 (.lit 0),.int .i64 (.lit 0),.int .i64 (.lit 0),.int .i64 (.lit 0),.int .i64 (.lit 0),.bool false,.bool false,.int .u32 (.lit 0),.int .i64 (.lit 0),.int .i64 (.lit 0),.int .i64 (.lit 0),.int .i64 (.lit 0),.int .i64 (.lit 0),.int .i64 (.lit 0),.int .i64 (.lit 0),.int .i64 (.lit 0),.int .i64 (.lit 0),.int .i64 (.lit 0),.int .i64 (.lit 0),.int .i64 (.lit 0),.bool false,.bool false,.int .u32 (.lit 0),.int .i64 (.lit 0),.int .i64 (.lit 0),.int .i64 (.lit 0),.int .i64 (.lit 0),.int .i64 (.lit 0),.int .i64 (.lit 0),.int .i64 (.lit 0),.int .i64 (.lit 0),.int .i64 (.lit 0),.int .i64 (.lit 0),.int .i64 (.lit 0),.int .i64 (.lit 0),.bool false,.bool false,.int .u32 (.lit 0),.int .i64 (.lit 0),.int .i64 (.lit 0),.int .i64 (.lit 0),.int .i64 (.lit 0),.int .i64 (.lit 0),.int .i64 (.lit 0),.int .i64 (.lit 0),.int .i64 (.lit 0),.int .i64 (.lit 0),.int .i64 (.lit 0),.int .i64 (.lit 0),.int .i64 (.lit 0),.bool false,.bool false,.int .u32 (.lit 0),.int .i64 (.lit 0),.int .i64 (.lit 0),.int .i64 (.lit 0),.int .i64 (.lit 0),.int .i64 (.lit 0),.int .i64 (.lit 0),.int .i64 (.lit 0),.int .i64 (.lit 0),.int .i64 (.lit 0),.int .i64 (.lit 0),.int .i64 (.lit 0),.int .i64 (.lit 0),.bool false,.bool false,.int .u32 (.lit 0),.int .i64 (.lit 0),.int .i64 (.lit 0),.int .i64 (.lit 0),.int .i64 (.lit 0),.int .i64 (.lit 0),.int .i64 (.lit 0),.int .i64 (.lit 0),.int .i64 (.lit 0),.int .i64 (.lit 0),.int .i64 (.lit 0),.int .i64 (.lit 0),.int .i64 (.lit 0),.bool false,.bool false,.int .u32 (.lit 0),.int .i64 (.lit 0),.int .i64 (.lit 0),.int .i64 (.lit 0),.int .i64 (.lit 0),.int .i64 (.lit 0),.int .i64 (.lit 0),.int .i64 (.lit 0),.int .i64 (.lit 0),.int .i64 (.lit 0),.int .i64 (.lit 0),.int .i64 (.lit 0),.int .i64 (.lit 0),.bool false,.bool false] 15 24 105 [(0,15,t e.f.b),(15,15,t e.f.f),(30,15,t e.a.a.b),(45,15,t e.a.a.f),(60,15,t e.a.b.b),(75,15,t e.a.b.f),(90,15,t e.a.c.c),(105,15,t e.a.f.b),(120,15,t e.a.f.f),(135,15,t e.b.a.c),(150,15,t e.b.b.a),(165,15,t e.b.b.c),(180,15,t e.b.c.a),(195,15,t e.b.c.c),(210,15,t e.b.f.a),(225,15,t e.b.f.c),(240,15,t e.c.a.a),(255,15,t e.c.b.a),(270,15,t e.c.b.c),(285,15,t e.c.c.a),(300,15,t e.c.c.c),(315,15,t e.c.f.a),(330,15,t e.c.f.c),(345,15,t e.f.a.a)]) 9007199254740991 53,O e (.move (t e.f.a.b)) 18014398509481983 54]).seq NC.ret)))))))),71, [.tmp e]⟩
theorem vK:ak Tryd.prog 39=some (.code Ba):=by kernel_rfl
noncomputable def Ap:NFun:=⟨(reg [o e.b (.box (t e) 105) 0,o e.c (.box (t e.a) 23) 1,o e.f (.move kf) 2]).seq ((reg [f 6 e.a.c e.c 0,l e.a.f e.a.c 1,f 9 e.b.a e.b 2,f 1 e.b.b e.b.a 3,l e.b.c e.b.b 4,o e.b.f (.call (F 65) [t e.a.f,t e.b.c]) 5,m e.a.a e.b.f 6]).seq (((reg [f 13 e.c.a e.b 0,l e.c.b e.c.a 1]).seq (NC.cond (t e.c.b) (reg [f 6 e.c.c e.c 0,l e.c.f e.c.c 1,f 9 e.f.a e.b 2,f 1 e.f.b e.f.a 3,l e.f.c e.f.b 4,o e.f.f (.call (F 66) [t e.c.f,t e.f.c]) 5,m e.a.a e.f.f 6]) NC.skip)).seq ((reg [f 1 e.a.a.a e.c 0,l e.a.a.b e.a.a.a 1,f 1 e.a.a.c e.b 2,f 1 e.a.a.f e.a.a.c 3,l e.a.b.a e.a.a.f 4,o e.a.b.b (.call (F 65) [t e.a.a.b,t e.a.b.a]) 5,m e.a.b.c e.a.b.b 6,G e.a.b.f (.fieldAddr 2 (t e.c)) e.a.b.c true 7,G e.a.c.a (.load1 (t e.a.b.f)) e.a.b.c true 8,G e.a.c.b (.fieldAddr 3 (t e.b)) e.a.b.c true 9,G e.a.c.c (.fieldAddr 1 (t e.a.c.b)) e.a.b.c true 10,G e.a.c.f (.load1 (t e.a.c.c)) e.a.b.c true 11,G e.a.f.a (.call (F 65) [t e.a.c.a,t e.a.c.f]) e.a.b.c true 12,o e.a.f.b (.pick (t e.a.b.c) (t e.a.f.a) kf) 13,m e.a.f.c e.a.f.b 14,G e.a.f.f (.fieldAddr 3 (t e.c)) e.a.f.c true 15,G e.b.a.a (.load1 (t e.a.f.f)) e.a.f.c true 16,G e.b.a.b (.fieldAddr 5 (t e.b)) e.a.f.c true 17,G e.b.a.c (.fieldAddr 1 (t e.b.a.b)) e.a.f.c true 18,G e.b.a.f (.load1 (t e.b.a.c)) e.a.f.c true 19,G e.b.b.a (.call (F 65) [t e.b.a.a,t e.b.a.f]) e.a.f.c true 20,o e.b.b.b (.pick (t e.a.f.c) (t e.b.b.a) kf) 21,m e.b.b.c e.b.b.b 22,G e.b.b.f (.fieldAddr 4 (t e.c)) e.b.b.c true 23,G e.b.c.a (.load1 (t e.b.b.f)) e.b.b.c true 24,G e.b.c.b (.fieldAddr 7 (t e.b)) e.b.b.c true 25,G e.b.c.c (.fieldAddr 1 (t e.b.c.b)) e.b.b.c true 26,G e.b.c.f (.load1 (t e.b.c.c)) e.b.b.c true 27,G e.b.f.a (.call (F 65) [t e.b.c.a,t e.b.c.f]) e.b.b.c true 28,o e.b.f.b (.pick (t e.b.b.c) (t e.b.f.a) kf) 29,m e.a.b e.b.f.b 30]).seq ((reg [m e.b.f.c e.a.a 0,m e.b.f.f e.b.f.c 1,G e.c.a.a (.move (t e.a.b)) e.b.f.f true 2,o e.c.a.b (.pick (t e.b.f.f) (t e.c.a.a) kf) 3,m e.c.a.c e.c.a.b 4,G e.c.a.f (.fieldAddr 11 (t e.b)) e.c.a.c true 5,G e.c.b.a (.fieldAddr 1 (t e.c.a.f)) e.c.a.c true 6,G e.c.b.b (.load1 (t e.c.b.a)) e.c.a.c true 7,G e.c.b.c (.bin .num .gtr (t e.c.b.b) (k 0)) e.c.a.c true 8,G e.c.b.f (.move (t e.c.b.c)) e.c.a.c true 9,G e.c.c.a (.fieldAddr 5 (t e.c)) e.c.b.f true 10,G e.c.c.b (.load1 (t e.c.c.a)) e.c.b.f true 11,G e.c.c.c (.call (F 67) [t e.c.c.b]) e.c.b.f true 12,G e.c.c.f (.pick (t e.c.b.f) (t e.c.c.c) kf) e.c.a.c true 13,G e.c.f.a (.move (t e.c.c.f)) e.c.a.c true 14,G e.c.f.b (.fieldAddr 11 (t e.b)) e.c.f.a false 15,G e.c.f.c (.fieldAddr 1 (t e.c.f.b)) e.c.f.a false 16,G e.c.f.f (.load1 (t e.c.f.c)) e.c.f.a false 17,G e.f.a.a (.bin .num .eql (t e.c.f.f) (k 0)) e.c.f.a false 18,G e.f.a.b (.move (t e.f.a.a)) e.c.f.a false 19,G e.f.a.c (.fieldAddr 5 (t e.c)) e.f.a.b true 20,G e.f.a.f (.load1 (t e.f.a.c)) e.f.a.b true 21,G e.f.b.a (.bin .num .eql (t e.f.a.f) (k 0)) e.f.a.b true 22,G e.f.b.b (.pick (t e.f.a.b) (t e.f.b.a) kf) e.c.f.a false 23,G e.f.b.c (.pick (t e.c.f.a) kt (t e.f.b.b)) e.c.a.c true 24,o e.f.b.f (.pick (t e.c.a.c) (t e.f.b.c) kf) 25,m e.f e.f.b.f 26]).seq NC.ret)))),77, [.tmp e.f]⟩
theorem qB:ak Tryd.prog 40=some (.code Ap):=by kernel_rfl
noncomputable def BG:NFun:=⟨(reg [o e.b (.move (.const (.str []))) 0]).seq ((reg [m e.c e 0,o e.f (.call (F 68) [t e.c,k 10]) 1,m e.b e.f 2]).seq NC.ret),5, [.tmp e.b]⟩
theorem wk:ak Tryd.prog 41=some (.code BG):=by kernel_rfl
noncomputable def Ah:NFun:=⟨(reg [o e.a.b (.move (k 0)) 0]).seq ((NC.block 0 ((reg [m e.a.f e 0,m e.b.a e.a 1,b e.b.b .lss (t e.a.f) (t e.b.a) 2,m e.a.c e.b.b 3]).seq (NC.cond (t e.a.c) ((reg [m e.b.c e.a 0,m e.a.b e.b.c 1]).seq NC.ret) ((reg [m e.c.a e 0,m e.c.b e.b 1,b e.c.c .gtr (t e.c.a) (t e.c.b) 2,m e.b.f e.c.c 3]).seq (NC.cond (t e.b.f) ((reg [m e.c.f e.b 0,m e.a.b e.c.f 1]).seq NC.ret) NC.skip))))).seq ((reg [m e.f.a e 0,m e.a.b e.f.a 1]).seq NC.ret)),18, [.tmp e.a.b]⟩
theorem qc:ak Tryd.prog 42=some (.code Ah):=by kernel_rfl
noncomputable def wW:NC:=(((reg [m e.a.f.b e.b.b 0,m e.a.f.c e.c 1,b e.a.f.f .lss (t e.a.f.b) (t e.a.f.c) 2]).seq (NC.cond (t e.a.f.f) NC.skip (NC.exit 0))).seq (NC.block 1 ((reg [m e.b.a.a e 0,m e.b.a.b e.a 1,o e.b.a.c (.call (F 71) [t e.b.a.a,t e.b.a.b]) 2,m e.b.c e.b.a.c 3]).seq (((reg [m e.b.a.f e.b.c 0,b e.b.b.a .lss (t e.b.a.f) (k 0) 1]).seq (NC.cond (t e.b.b.a) (NC.exit 0) NC.skip)).seq ((reg [m e.b.b.b e.b.a 0,m e.b.b.c e.b.b 1,m e.b.b.f e 2,m e.b.c.a e.b.c 3,m e.b.c.b e.b 4,b e.b.c.c .add (t e.b.c.a) (t e.b.c.b) 5,o e.b.c.f (.sliceStr (t e.b.b.f) none (some (t e.b.c.c))) 6,o e.b.f.a (.indexSlc 1 (t e.b.b.b) (t e.b.b.c)) 7,q (.store 1 (t e.b.f.a) (t e.b.c.f)) 8]).seq ((reg [m e.b.f.b e 0,m e.b.f.c e.b.c 1,m e.b.f.f e.a 2,o e.c.a.a (.lenStr (t e.b.f.f)) 3,b e.c.a.b .add (t e.b.f.c) (t e.c.a.a) 4,o e.c.a.c (.sliceStr (t e.b.f.b) (some (t e.c.a.b)) none) 5,m e e.c.a.c 6]).seq (reg [m e.c.a.f e.b.b 0,b e.c.b.a .add (t e.c.a.f) (k 1) 1,m e.b.b e.c.b.a 2])))))))
noncomputable def BK:NFun:=⟨(reg [o e.a.f (.move kn) 0]).seq (((reg [m e.b.f e.c 0,b e.c.a .eql (t e.b.f) (k 0) 1]).seq (NC.cond (t e.c.a) ((reg [o e.a.f (.move kn) 0]).seq NC.ret) NC.skip)).seq (((reg [m e.c.b e.a 0,b e.c.c .eql (t e.c.b) (.const (.str [])) 1]).seq (NC.cond (t e.c.c) ((reg [m e.c.f e 0,m e.f.a e.c 1,o e.f.b (.call (F 69) [t e.c.f,t e.f.a]) 2,m e.a.f e.f.b 3]).seq NC.ret) NC.skip)).seq (((reg [m e.f.c e.c 0,b e.f.f .lss (t e.f.c) (k 0) 1]).seq (NC.cond (t e.f.f) (reg [m e.a.a.a e 0,m e.a.a.b e.a 1,o e.a.a.c (.call (F 70) [t e.a.a.a,t e.a.a.b]) 2,b e.a.a.f .add (t e.a.a.c) (k 1) 3,m e.c e.a.a.f 4]) NC.skip)).seq ((reg [m e.a.b.a e.c 0,m e.a.b.b e 1,o e.a.b.c (.lenStr (t e.a.b.b)) 2,b e.a.b.f .add (t e.a.b.c) (k 1) 3,o e.a.c.a (.minmax false [t e.a.b.a,t e.a.b.f]) 4,m e.c e.a.c.a 5]).seq ((reg [m e.a.c.b e.c 0,o e.a.c.c (.mkSlice [.str []] 1 16 9 (t e.a.c.b) (t e.a.c.b)) 1,m e.b.a e.a.c.c 2]).seq ((reg [m e.a.c.f e.c 0,b e.a.f.a .sub (t e.a.c.f) (k 1) 1,m e.c e.a.f.a 2]).seq ((reg [o e.b.b (.move (k 0)) 0]).seq ((NC.block 0 wW.loop).seq ((reg [m e.c.b.b e.b.a 0,m e.c.b.c e.b.b 1,m e.c.b.f e 2,o e.c.c.a (.indexSlc 1 (t e.c.b.b) (t e.c.b.c)) 3,q (.store 1 (t e.c.c.a) (t e.c.b.f)) 4]).seq ((reg [m e.c.c.b e.b.a 0,m e.c.c.c e.b.b 1,b e.c.c.f .add (t e.c.c.c) (k 1) 2,o e.c.f.a (.sliceSlc 1 (t e.c.c.b) none (some (t e.c.c.f))) 3,m e.a.f e.c.f.a 4]).seq NC.ret)))))))))),66, [.tmp e.a.f]⟩
theorem xh:ak Tryd.prog 43=some (.code BK):=by kernel_rfl
noncomputable def xQ:NC:=((reg [b e.b.f.b .lss (t e.b.f.a) (t e.b.c.f) 0]).seq ((NC.cond (t e.b.f.b) NC.skip (NC.exit 0)).seq ((NC.block 1 ((reg [o e.b.f.c (.indexSlc 1 (t e.b.c.c) (t e.b.f.a)) 0,l e.b.f.f e.b.f.c 1,m e.a.f e.b.f.f 2]).seq ((reg [m e.c.a.a e.a.f 0,b e.c.a.b .sub (t e.c.a.a) (kb 48) 1,m e.a.f e.c.a.b 2]).seq (((reg [m e.c.a.c e.a.f 0,b e.c.a.f .gtr (t e.c.a.c) (kb 9) 1]).seq (NC.cond (t e.c.a.f) ((reg [o e.c.b.a (.mkIfc 132 (k 2)) 0,o e.b (.move (k 0)) 1,m e.c e.c.b.a 2]).seq NC.ret) NC.skip)).seq (reg [m e.c.b.b e.a.b 0,b e.c.b.c .mul (t e.c.b.b) (k 10) 1,m e.c.b.f e.a.f 2,o e.c.c.a (.toInt .i64 (t e.c.b.f)) 3,b e.c.c.b .add (t e.c.b.c) (t e.c.c.a) 4,m e.a.b e.c.c.b 5]))))).seq (reg [b e.c.c.c .add (t e.b.f.a) (k 1) 0,m e.b.f.a e.c.c.c 1]))))
noncomputable def Ca:NFun:=⟨(reg [o e.b (.move (k 0)) 0,o e.c (.move (.const .nili)) 1]).seq ((reg [m e.b.c e 0,o e.b.f (.lenStr (t e.b.c)) 1,m e.f e.b.f 2]).seq (((reg [o e.c.a (.move kf) 0,G e.c.b (.move (t e.f)) e.c.a true 1,G e.c.c (.bin .num .lss (k 0) (t e.c.b)) e.c.a true 2,G e.c.f (.move (t e.c.c)) e.c.a true 3,G e.f.a (.move (t e.f)) e.c.f true 4,G e.f.b (.bin .num .lss (t e.f.a) (k 10)) e.c.f true 5,G e.f.c (.pick (t e.c.f) (t e.f.b) kf) e.c.a true 6,o e.f.f (.pick (t e.c.a) (t e.f.c) kf) 7,m e.a.a.a e.f.f 8,G e.a.a.b (.move kt) e.a.a.a false 9,G e.a.a.c (.move (t e.f)) e.a.a.b true 10,G e.a.a.f (.bin .num .lss (k 0) (t e.a.a.c)) e.a.a.b true 11,G e.a.b.a (.move (t e.a.a.f)) e.a.a.b true 12,G e.a.b.b (.move (t e.f)) e.a.b.a true 13,G e.a.b.c (.bin .num .lss (t e.a.b.b) (k 19)) e.a.b.a true 14,G e.a.b.f (.pick (t e.a.b.a) (t e.a.b.c) kf) e.a.a.b true 15,G e.a.c.a (.pick (t e.a.a.b) (t e.a.b.f) kf) e.a.a.a false 16,o e.a.c.b (.pick (t e.a.a.a) kt (t e.a.c.a)) 17]).seq (NC.cond (t e.a.c.b) ((reg [m e.a.c.c e 0,m e.a.a e.a.c.c 1]).seq (((reg [m e.a.c.f e 0,o e.a.f.a (.indexStr (t e.a.c.f) (k 0)) 1,b e.a.f.b .eql (t e.a.f.a) (kb 45) 2,m e.a.f.c e.a.f.b 3,G e.a.f.f (.move (t e)) e.a.f.c false 4,G e.b.a.a (.indexStr (t e.a.f.f) (k 0)) e.a.f.c false 5,G e.b.a.b (.bin .num .eql (t e.b.a.a) (kb 43)) e.a.f.c false 6,o e.b.a.c (.pick (t e.a.f.c) kt (t e.b.a.b)) 7]).seq (NC.cond (t e.b.a.c) ((reg [m e.b.a.f e 0,o e.b.b.a (.sliceStr (t e.b.a.f) (some (k 1)) none) 1,m e e.b.b.a 2]).seq ((reg [m e.b.b.b e 0,o e.b.b.c (.lenStr (t e.b.b.b)) 1,b e.b.b.f .lss (t e.b.b.c) (k 1) 2]).seq (NC.cond (t e.b.b.f) ((reg [o e.b.c.a (.mkIfc 132 (k 2)) 0,o e.b (.move (k 0)) 1,m e.c e.b.c.a 2]).seq NC.ret) NC.skip))) NC.skip)).seq ((reg [o e.a.b (.move (k 0)) 0]).seq (((reg [m e.b.c.b e 0,o e.b.c.c (.strToBytes 5 (t e.b.c.b)) 1,L e.b.c.f e.b.c.c 2,o e.b.f.a (.move (k 0)) 3]).seq (NC.block 0 xQ.loop)).seq (((reg [m e.c.c.f e.a.a 0,o e.c.f.a (.indexStr (t e.c.c.f) (k 0)) 1,b e.c.f.b .eql (t e.c.f.a) (kb 45) 2]).seq (NC.cond (t e.c.f.b) (reg [m e.c.f.c e.a.b 0,o e.c.f.f (.un .neg (t e.c.f.c)) 1,m e.a.b e.c.f.f 2]) NC.skip)).seq ((reg [m e.f.a.a e.a.b 0,m e.b e.f.a.a 1,o e.c (.move (.const .nili)) 2]).seq NC.ret)))))) NC.skip)).seq ((reg [m e.f.a.c e 0,o e.f.a.f (.call (F 72) [t e.f.a.c,k 10,k 0]) 1,m e.f.a.b e.f.a.f 2,x e.f.b.a e.f.a.b 0 3,x e.f.b.b e.f.a.b 1 4,m e.b.a e.f.b.a 5,m e.b.b e.f.b.b 6]).seq ((reg [m e.f.b.c e.b.a 0,m e.f.b.f e.b.b 1,m e.b e.f.b.c 2,m e.c e.f.b.f 3]).seq NC.ret)))),77, [.tmp e.b,.tmp e.c]⟩
theorem vA:ak Tryd.prog 44=some (.code Ca):=by kernel_rfl
noncomputable def AE:NFun:=⟨(reg [o e.b.b (.move (.const .nili)) 0]).seq (((reg [m e.b.c e.f 0]).seq (NC.block 0 ((reg [o e.c.a (.mkIfc 132 (k 2)) 0,o e.c.b (.bin (.ifc2 [215,214,212,211,132,106,70,54,27,21,12,6,5,3,2]) .eql (t e.b.c) (t e.c.a)) 1,m e.b.f e.c.b 2]).seq (NC.cond (t e.b.f) ((reg [m e.c.c e 0,m e.c.f e.a 1,o e.f.a (.call (F 73) [t e.c.c,t e.c.f]) 2,o e.f.b (.mkIfc 135 (t e.f.a)) 3,m e.b.b e.f.b 4]).seq NC.ret) ((reg [o e.f.f (.mkIfc 132 (k 1)) 0,o e.a.a.a (.bin (.ifc2 [215,214,212,211,132,106,70,54,27,21,12,6,5,3,2]) .eql (t e.b.c) (t e.f.f)) 1,m e.f.c e.a.a.a 2]).seq (NC.cond (t e.f.c) ((reg [m e.a.a.b e 0,m e.a.a.c e.a 1,o e.a.a.f (.call (F 74) [t e.a.a.b,t e.a.a.c]) 2,o e.a.b.a (.mkIfc 135 (t e.a.a.f)) 3,m e.b.b e.a.b.a 4]).seq NC.ret) ((reg [o e.a.b.c (.mkIfc 132 (k 3)) 0,o e.a.b.f (.bin (.ifc2 [215,214,212,211,132,106,70,54,27,21,12,6,5,3,2]) .eql (t e.b.c) (t e.a.b.c)) 1,m e.a.b.b e.a.b.f 2]).seq (NC.cond (t e.a.b.b) ((reg [m e.a.c.a e 0,m e.a.c.b e.a 1,m e.a.c.c e.b 2,o e.a.c.f (.call (F 75) [t e.a.c.a,t e.a.c.b,t e.a.c.c]) 3,o e.a.f.a (.mkIfc 135 (t e.a.c.f)) 4,m e.b.b e.a.f.a 5]).seq NC.ret) ((reg [o e.a.f.c (.mkIfc 132 (k 4)) 0,o e.a.f.f (.bin (.ifc2 [215,214,212,211,132,106,70,54,27,21,12,6,5,3,2]) .eql (t e.b.c) (t e.a.f.c)) 1,m e.a.f.b e.a.f.f 2]).seq (NC.cond (t e.a.f.b) ((reg [m e.b.a.a e 0,m e.b.a.b e.a 1,m e.b.a.c e.c 2,o e.b.a.f (.call (F 76) [t e.b.a.a,t e.b.a.b,t e.b.a.c]) 3,o e.b.b.a (.mkIfc 135 (t e.b.a.f)) 4,m e.b.b e.b.b.a 5]).seq NC.ret) NC.skip)))))))))).seq ((reg [m e.b.b.b e.f 0,m e.b.b e.b.b.b 1]).seq NC.ret)),43, [.tmp e.b.b]⟩
theorem vI:ak Tryd.prog 45=some (.code AE):=by kernel_rfl
noncomputable def Cb:NFun:=⟨(reg [o e.b (.alloc [.int .i64 (.lit 0),.int .i64 (.lit 0)] 103) 0]).seq ((reg [m e.c e 0,o e.f (.build [.int .i64 (.lit 0),.int .i64 (.lit 0)] [(0,1,t e.c),(1,1,k 5)]) 1,q (.store 2 (t e.b) (t e.f)) 2]).seq NC.ret),5, [.cellN e.b 2]⟩
theorem wd:ak Tryd.prog 58=some (.code Cb):=by kernel_rfl
noncomputable def B4:NFun:=⟨(reg [o e.c (.alloc [.int .u32 (.lit 0),.int .i64 (.lit 0),.int .i64 (.lit 0),.int .i64 (.lit 0),.int .i64 (.lit 0),.int .i64 (.lit 0),.int .i64 (.lit 0),.int .i64 (.lit 0),.int .i64 (.lit 0),.int .i64 (.lit 0),.int .i64 (.lit 0),.int .i64 (.lit 0),.int .i64 (.lit 0),.bool false,.bool false] 105) 0]).seq ((reg [m e.f e 0,o e.a.a (.loadN 2 (t e.a)) 1,o e.a.b (.build [.int .i64 (.lit 0),.int .i64 (.lit 0)] [(0,1,k 21),(1,1,k 2)]) 2,o e.a.c (.build [.int .i64 (.lit 0),.int .i64 (.lit 0)] [(0,1,k 5),(1,1,k 16)]) 3,o e.a.f (.build [.int .u32 (.lit 0),.int .i64 (.lit 0),.int .i64 (.lit 0),.int .i64 (.lit 0),.int .i64 (.lit 0),.int .i64 (.lit 0),.int .i64 (.lit 0),.int .i64 (.lit 0),.int .i64 (.lit 0),.int .i64 (.lit 0),.int .i64 (.lit 0),.int .i64 (.lit 0),.int .i64 (.lit 0),.bool false,.bool false] [(0,1,t e.f),(1,2,t e.a.a),(7,2,t e.a.b),(9,2,t e.a.c)]) 4,q (.store 15 (t e.c) (t e.a.f)) 5]).seq NC.ret),9, [.cellN e.c 15]⟩
theorem vn:ak Tryd.prog 59=some (.code B4):=by kernel_rfl
noncomputable def AD:NFun:=⟨(reg [o e.a.a (.alloc [.int .u32 (.lit 0),.int .i64 (.lit 0),.int .i64 (.lit 0),.int .i64 (.lit 0),.int .i64 (.lit 0),.int .i64 (.lit 0),.int .i64 (.lit 0),.int .i64 (.lit 0),.int .i64 (.lit 0),.int .i64 (.lit 0),.int .i64 (.lit 0),.int .i64 (.lit 0),.int .i64 (.lit 0),.bool false,.bool false] 105) 0]).seq ((reg [m e.a.b e 0,o e.a.c (.loadN 2 (t e.a)) 1,o e.a.f (.loadN 2 (t e.b)) 2,o e.b.a (.loadN 2 (t e.c)) 3,o e.b.b (.build [.int .u32 (.lit 0),.int .i64 (.lit 0),.int .i64 (.lit 0),.int .i64 (.lit 0),.int .i64 (.lit 0),.int .i64 (.lit 0),.int .i64 (.lit 0),.int .i64 (.lit 0),.int .i64 (.lit 0),.int .i64 (.lit 0),.int .i64 (.lit 0),.int .i64 (.lit 0),.int .i64 (.lit 0),.bool false,.bool false] [(0,1,t e.a.b),(1,2,t e.a.c),(3,2,t e.a.f),(5,2,t e.b.a)]) 4,q (.store 15 (t e.a.a) (t e.b.b)) 5]).seq NC.ret),11, [.cellN e.a.a 15]⟩
theorem xA:ak Tryd.prog 60=some (.code AD):=by kernel_rfl
noncomputable def AN:NFun:=⟨(reg [o e.b (.alloc [.int .u32 (.lit 0),.int .i64 (.lit 0),.int .i64 (.lit 0),.int .i64 (.lit 0),.int .i64 (.lit 0),.int .i64 (.lit 0),.int .i64 (.lit 0),.int .i64 (.lit 0),.int .i64 (.lit 0),.int .i64 (.lit 0),.int .i64 (.lit 0),.int .i64 (.lit 0),.int .i64 (.lit 0),.bool false,.bool false] 105) 0]).seq ((reg [m e.c e 0,o e.f (.call (F 58) [k 0]) 1,o e.a.a (.build [.int .i64 (.lit 0),.int .i64 (.lit 0)] [(0,1,k 5),(1,1,k 19)]) 2,o e.a.b (.build [.int .u32 (.lit 0),.int .i64 (.lit 0),.int .i64 (.lit 0),.int .i64 (.lit 0),.int .i64 (.lit 0),.int .i64 (.lit 0),.int .i64 (.lit 0),.int .i64 (.lit 0),.int .i64 (.lit 0),.int .i64 (.lit 0),.int .i64 (.lit 0),.int .i64 (.lit 0),.int .i64 (.lit 0),.bool false,.bool false] [(0,1,t e.c),(3,2,t e.f),(9,2,t e.a.a),(13,1,.const (.bool true))]) 3,q (.store 15 (t e.b) (t e.a.b)) 4]).seq NC.ret),7, [.cellN e.b 15]⟩
theorem wJ:ak Tryd.prog 61=some (.code AN):=by kernel_rfl
noncomputable def AQ:NFun:=⟨(reg [o e.f (.alloc [.int .u32 (.lit 0),.int .i64 (.lit 0),.int .i64 (.lit 0),.int .i64 (.lit 0),.int .i64 (.lit 0),.int .i64 (.lit 0),.int .i64 (.lit 0),.int .i64 (.lit 0),.int .i64 (.lit 0),.int .i64 (.lit 0),.int .i64 (.lit 0),.int .i64 (.lit 0),.int .i64 (.lit 0),.bool false,.bool false] 105) 0]).seq ((reg [m e.a.a e 0,o e.a.b (.loadN 2 (t e.a)) 1,o e.a.c (.loadN 2 (t e.b)) 2,o e.a.f (.build [.int .i64 (.lit 0),.int .i64 (.lit 0)] [(0,1,k 10),(1,1,k 12)]) 3,o e.b.a (.build [.int .u32 (.lit 0),.int .i64 (.lit 0),.int .i64 (.lit 0),.int .i64 (.lit 0),.int .i64 (.lit 0),.int .i64 (.lit 0),.int .i64 (.lit 0),.int .i64 (.lit 0),.int .i64 (.lit 0),.int .i64 (.lit 0),.int .i64 (.lit 0),.int .i64 (.lit 0),.int .i64 (.lit 0),.bool false,.bool false] [(0,1,t e.a.a),(1,2,t e.a.b),(3,2,t e.a.c),(9,2,t e.a.f)]) 4,q (.store 15 (t e.f) (t e.b.a)) 5]).seq NC.ret),10, [.cellN e.f 15]⟩
theorem xM:ak Tryd.prog 62=some (.code AQ):=by kernel_rfl
noncomputable def Bc:NFun:=⟨(reg [o e.f (.alloc [.int .u32 (.lit 0),.int .i64 (.lit 0),.int .i64 (.lit 0),.int .i64 (.lit 0),.int .i64 (.lit 0),.int .i64 (.lit 0),.int .i64 (.lit 0),.int .i64 (.lit 0),.int .i64 (.lit 0),.int .i64 (.lit 0),.int .i64 (.lit 0),.int .i64 (.lit 0),.int .i64 (.lit 0),.bool false,.bool false] 105) 0]).seq ((reg [m e.a.a e 0,o e.a.b (.loadN 2 (t e.a)) 1,o e.a.c (.loadN 2 (t e.b)) 2,o e.a.f (.build [.int .u32 (.lit 0),.int .i64 (.lit 0),.int .i64 (.lit 0),.int .i64 (.lit 0),.int .i64 (.lit 0),.int .i64 (.lit 0),.int .i64 (.lit 0),.int .i64 (.lit 0),.int .i64 (.lit 0),.int .i64 (.lit 0),.int .i64 (.lit 0),.int .i64 (.lit 0),.int .i64 (.lit 0),.bool false,.bool false] [(0,1,t e.a.a),(1,2,t e.a.b),(3,2,t e.a.c)]) 3,q (.store 15 (t e.f) (t e.a.f)) 4]).seq NC.ret),9, [.cellN e.f 15]⟩
theorem xk:ak Tryd.prog 63=some (.code Bc):=by kernel_rfl
noncomputable def Be:NFun:=⟨(reg [o e.b (.alloc [.int .u32 (.lit 0),.int .i64 (.lit 0),.int .i64 (.lit 0),.int .i64 (.lit 0),.int .i64 (.lit 0),.int .i64 (.lit 0),.int .i64 (.lit 0),.int .i64 (.lit 0),.int .i64 (.lit 0),.int .i64 (.lit 0),.int .i64 (.lit 0),.int .i64 (.lit 0),.int .i64 (.lit 0),.bool false,.bool false] 105) 0]).seq ((reg [m e.c e 0,o e.f (.build [.int .u32 (.lit 0),.int .i64 (.lit 0),.int .i64 (.lit 0),.int .i64 (.lit 0),.int .i64 (.lit 0),.int .i64 (.lit 0),.int .i64 (.lit 0),.int .i64 (.lit 0),.int .i64 (.lit 0),.int .i64 (.lit 0),.int .i64 (.lit 0),.int .i64 (.lit 0),.int .i64 (.lit 0),.bool false,.bool false] [(0,1,t e.c)]) 1,q (.store 15 (t e.b) (t e.f)) 2]).seq NC.ret),5, [.cellN e.b 15]⟩
theorem x7:ak Tryd.prog 64=some (.code Be):=by kernel_rfl
noncomputable def zj:NFun:=⟨(reg [o e.f (.move kf) 0]).seq ((reg [m e.a.b e.a 0,o e.a.c (.call (F 89) [k 0,t e.a.b]) 1,m e.a.a e.a.c 2,x e.a.f e.a.a 0 3,x e.b.a e.a.a 1 4,m e.a e.b.a 5]).seq ((reg [m e.b.b e 0,b e.b.c .geq (t e.b.b) (k 0) 1,m e.b.f e.b.c 2,G e.c.a (.move (t e)) e.b.f true 3,G e.c.b (.move (t e.a)) e.b.f true 4,G e.c.c (.bin .num .shl (k 1) (t e.c.b)) e.b.f true 5,G e.c.f (.bin .num .lss (t e.c.a) (t e.c.c)) e.b.f true 6,o e.f.a (.pick (t e.b.f) (t e.c.f) kf) 7,m e.f e.f.a 8]).seq NC.ret)),18, [.tmp e.f]⟩
theorem qA:ak Tryd.prog 65=some (.code zj):=by kernel_rfl
noncomputable def zb:NFun:=⟨(reg [o e.f (.move kf) 0]).seq ((reg [m e.a.b e.a 0,o e.a.c (.call (F 89) [k 0,t e.a.b]) 1,m e.a.a e.a.c 2,x e.a.f e.a.a 0 3,x e.b.a e.a.a 1 4,m e.a e.b.a 5]).seq (((reg [m e.b.b e.a 0,b e.b.c .eql (t e.b.b) (k 0) 1]).seq (NC.cond (t e.b.c) ((reg [m e.b.f e 0,b e.c.a .eql (t e.b.f) (k 0) 1,m e.f e.c.a 2]).seq NC.ret) NC.skip)).seq ((reg [m e.c.b e 0,m e.c.c e.a 1,b e.c.f .sub (t e.c.c) (k 1) 2,b e.f.a .shl (k (-1)) (t e.c.f) 3,b e.f.b .geq (t e.c.b) (t e.f.a) 4,m e.f.c e.f.b 5,G e.f.f (.move (t e)) e.f.c true 6,G e.a.a.a (.move (t e.a)) e.f.c true 7,G e.a.a.b (.bin .num .sub (t e.a.a.a) (k 1)) e.f.c true 8,G e.a.a.c (.bin .num .shl (k 1) (t e.a.a.b)) e.f.c true 9,G e.a.a.f (.bin .num .lss (t e.f.f) (t e.a.a.c)) e.f.c true 10,o e.a.b.a (.pick (t e.f.c) (t e.a.a.f) kf) 11,m e.f e.a.b.a 12]).seq NC.ret))),26, [.tmp e.f]⟩
theorem pY:ak Tryd.prog 66=some (.code zb):=by kernel_rfl
noncomputable def zY:NFun:=⟨(reg [o e.b (.move kf) 0]).seq ((reg [m e.c e 0,b e.f .eql (t e.c) (k 0) 1,m e.a.a e.f 2,G e.a.b (.move (t e)) e.a.a false 3,G e.a.c (.bin .num .eql (t e.a.b) (k 1)) e.a.a false 4,o e.a.f (.pick (t e.a.a) kt (t e.a.c)) 5,m e.b.a e.a.f 6,G e.b.b (.move (t e)) e.b.a false 7,G e.b.c (.bin .num .eql (t e.b.b) (k 11)) e.b.a false 8,o e.b.f (.pick (t e.b.a) kt (t e.b.c)) 9,m e.c.a e.b.f 10,G e.c.b (.move (t e)) e.c.a false 11,G e.c.c (.bin .num .eql (t e.c.b) (k 10)) e.c.a false 12,o e.c.f (.pick (t e.c.a) kt (t e.c.c)) 13,m e.b e.c.f 14]).seq NC.ret),17, [.tmp e.b]⟩
theorem ql:ak Tryd.prog 67=some (.code zY):=by kernel_rfl
noncomputable def A8:NFun:=⟨(reg [o e.f (.move (.const (.str []))) 0]).seq (((reg [m e.b.b e.a 0,b e.b.c .eql (t e.b.b) (k 10) 1]).seq (NC.cond (t e.b.c) (((reg [m e.b.f e 0,b e.c.a .leq (k 0) (t e.b.f) 1,m e.c.b e.c.a 2,G e.c.c (.move (t e)) e.c.b true 3,G e.c.f (.bin .num .lss (t e.c.c) (k 100)) e.c.b true 4,o e.f.a (.pick (t e.c.b) (t e.c.f) kf) 5]).seq (NC.cond (t e.f.a) ((reg [m e.f.b e 0,o e.f.c (.call (F 90) [t e.f.b]) 1,m e.f e.f.c 2]).seq NC.ret) NC.skip)).seq ((reg [o e.a.a (.alloc [.int .u8 (.lit 0),.int .u8 (.lit 0),.int .u8 (.lit 0),.int .u8 (.lit 0),.int .u8 (.lit 0),.int .u8 (.lit 0),.int .u8 (.lit 0),.int .u8 (.lit 0),.int .u8 (.lit 0),.int .u8 (.lit 0),.int .u8 (.lit 0),.int .u8 (.lit 0),.int .u8 (.lit 0),.int .u8 (.lit 0),.int .u8 (.lit 0),.int .u8 (.lit 0),.int .u8 (.lit 0),.int .u8 (.lit 0),.int .u8 (.lit 0),.int .u8 (.lit 0),.int .u8 (.lit 0),.int .u8 (.lit 0),.int .u8 (.lit 0),.int .u8 (.lit 0)] 152) 0]).seq ((reg [m e.f.f e 0,o e.a.a.a (.toInt .u64 (t e.f.f)) 1,m e.a.b e.a.a.a 2]).seq (((reg [m e.a.a.b e 0,b e.a.a.c .lss (t e.a.a.b) (k 0) 1]).seq (NC.cond (t e.a.a.c) (reg [m e.a.a.f e.a.b 0,o e.a.b.a (.un .neg (t e.a.a.f)) 1,m e.a.b e.a.b.a 2]) NC.skip)).seq ((reg [m e.a.b.b e.a.b 0,o e.a.b.c (.call (F 91) [t e.a.b.b]) 1,m e.a.c e.a.b.c 2]).seq ((reg [m e.a.b.f e.a.c 0,b e.a.c.a .add (k 1) (t e.a.b.f) 1,o e.a.c.b (.fail) 2,m e.a.c.c e.a.b 3,o e.a.c.f (.call (F 92) [t e.a.c.b,t e.a.c.c]) 4]).seq (((reg [m e.a.f.a e 0,b e.a.f.b .lss (t e.a.f.a) (k 0) 1]).seq (NC.cond (t e.a.f.b) ((reg [o e.a.f.c (.indexArr 1 24 (t e.a.a) (k 0)) 0,q (.store 1 (t e.a.f.c) (kb 45)) 1]).seq ((reg [m e.a.f.f e.a.c 0,b e.b.a.a .add (k 1) (t e.a.f.f) 1,o e.b.a.b (.fail) 2,o e.b.a.c (.bytesToStr (t e.b.a.b)) 3,m e.f e.b.a.c 4]).seq NC.ret)) NC.skip)).seq ((reg [m e.b.a.f e.a.c 0,b e.b.b.a .add (k 1) (t e.b.a.f) 1,o e.b.b.b (.fail) 2,o e.b.b.c (.bytesToStr (t e.b.b.b)) 3,m e.f e.b.b.c 4]).seq NC.ret)))))))) NC.skip)).seq ((reg [m e.b.c.a e 0,o e.b.c.b (.toInt .u64 (t e.b.c.a)) 1,m e.b.c.c e.a 2,m e.b.c.f e 3,b e.b.f.a .lss (t e.b.c.f) (k 0) 4,o e.b.f.b (.call (F 93) [.const .nils,t e.b.c.b,t e.b.c.c,t e.b.f.a,.const (.bool false)]) 5,m e.b.b.f e.b.f.b 6,x e.b.f.c e.b.b.f 0 7,x e.b.f.f e.b.b.f 1 8,m e.a.f e.b.f.c 9,m e.b.a e.b.f.f 10]).seq ((reg [m e.c.a.a e.b.a 0,m e.f e.c.a.a 1]).seq NC.ret))),54, [.tmp e.f]⟩
theorem xX:ak Tryd.prog 68=some (.code A8):=by kernel_rfl
noncomputable def wI:NC:=(((reg [m e.a.a.b e.a.c 0,m e.a.a.c e.a 1,b e.a.a.f .sub (t e.a.a.c) (k 1) 2,b e.a.b.a .lss (t e.a.a.b) (t e.a.a.f) 3]).seq (NC.cond (t e.a.b.a) NC.skip (NC.exit 0))).seq ((NC.block 1 ((reg [m e.a.c.a e 0,o e.a.c.b (.call (F 95) [t e.a.c.a]) 1,m e.a.b.f e.a.c.b 2,x e.a.c.c e.a.b.f 0 3,x e.a.c.f e.a.b.f 1 4,m e.a.f e.a.c.c 5,m e.b.a e.a.c.f 6]).seq ((reg [m e.a.f.a e.a.b 0,m e.a.f.b e.a.c 1,m e.a.f.c e 2,m e.a.f.f e.b.a 3,o e.b.a.a (.sliceStr (t e.a.f.c) none (some (t e.a.f.f))) 4,o e.b.a.b (.indexSlc 1 (t e.a.f.a) (t e.a.f.b)) 5,q (.store 1 (t e.b.a.b) (t e.b.a.a)) 6]).seq (reg [m e.b.a.c e 0,m e.b.a.f e.b.a 1,o e.b.b.a (.sliceStr (t e.b.a.c) (some (t e.b.a.f)) none) 2,m e e.b.b.a 3])))).seq (reg [m e.a.b.b e.a.c 0,b e.a.b.c .add (t e.a.b.b) (k 1) 1,m e.a.c e.a.b.c 2])))
noncomputable def AY:NFun:=⟨(reg [o e.f (.move kn) 0]).seq ((reg [m e.b.b e 0,o e.b.c (.call (F 94) [t e.b.b]) 1,m e.a.a e.b.c 2]).seq (((reg [m e.b.f e.a 0,b e.c.a .lss (t e.b.f) (k 0) 1,m e.c.b e.c.a 2,G e.c.c (.move (t e.a)) e.c.b false 3,G e.c.f (.move (t e.a.a)) e.c.b false 4,G e.f.a (.bin .num .gtr (t e.c.c) (t e.c.f)) e.c.b false 5,o e.f.b (.pick (t e.c.b) kt (t e.f.a)) 6]).seq (NC.cond (t e.f.b) (reg [m e.f.c e.a.a 0,m e.a e.f.c 1]) NC.skip)).seq ((reg [m e.f.f e.a 0,o e.a.a.a (.mkSlice [.str []] 1 16 9 (t e.f.f) (t e.f.f)) 1,m e.a.b e.a.a.a 2]).seq (((reg [o e.a.c (.move (k 0)) 0]).seq (NC.block 0 wI.loop)).seq (((reg [m e.b.b.b e.a 0,b e.b.b.c .gtr (t e.b.b.b) (k 0) 1]).seq (NC.cond (t e.b.b.c) (reg [m e.b.b.f e.a.b 0,m e.b.c.a e.a 1,b e.b.c.b .sub (t e.b.c.a) (k 1) 2,m e.b.c.c e 3,o e.b.c.f (.indexSlc 1 (t e.b.b.f) (t e.b.c.b)) 4,q (.store 1 (t e.b.c.f) (t e.b.c.c)) 5]) NC.skip)).seq ((reg [m e.b.f.a e.a.b 0,m e.f e.b.f.a 1]).seq NC.ret)))))),50, [.tmp e.f]⟩
theorem vu:ak Tryd.prog 69=some (.code AY):=by kernel_rfl
noncomputable def wz:NC:=(NC.block 1 ((reg [m e.f.f e 0,m e.a.a.a e.a 1,o e.a.a.b (.call (F 71) [t e.f.f,t e.a.a.a]) 2,m e.a.b e.a.a.b 3]).seq (((reg [m e.a.a.c e.a.b 0,b e.a.a.f .eql (t e.a.a.c) (k (-1)) 1]).seq (NC.cond (t e.a.a.f) ((reg [m e.a.b.a e.a.a 0,m e.f e.a.b.a 1]).seq NC.ret) NC.skip)).seq ((reg [m e.a.b.b e.a.a 0,b e.a.b.c .add (t e.a.b.b) (k 1) 1,m e.a.a e.a.b.c 2]).seq (reg [m e.a.b.f e 0,m e.a.c.a e.a.b 1,m e.a.c.b e.a 2,o e.a.c.c (.lenStr (t e.a.c.b)) 3,b e.a.c.f .add (t e.a.c.a) (t e.a.c.c) 4,o e.a.f.a (.sliceStr (t e.a.b.f) (some (t e.a.c.f)) none) 5,m e e.a.f.a 6])))))
noncomputable def Ck:NFun:=⟨(reg [o e.f (.move (k 0)) 0]).seq (((reg [m e.a.c e.a 0,o e.a.f (.lenStr (t e.a.c)) 1,b e.b.a .eql (t e.a.f) (k 0) 2]).seq (NC.cond (t e.b.a) ((reg [m e.b.b e 0,o e.b.c (.call (F 94) [t e.b.b]) 1,b e.b.f .add (t e.b.c) (k 1) 2,m e.f e.b.f 3]).seq NC.ret) NC.skip)).seq (((reg [m e.c.a e.a 0,o e.c.b (.lenStr (t e.c.a)) 1,b e.c.c .eql (t e.c.b) (k 1) 2]).seq (NC.cond (t e.c.c) ((reg [m e.c.f e 0,m e.f.a e.a 1,o e.f.b (.indexStr (t e.f.a) (k 0)) 2,o e.f.c (.call (F 96) [t e.c.f,t e.f.b]) 3,m e.f e.f.c 4]).seq NC.ret) NC.skip)).seq ((reg [o e.a.a (.move (k 0)) 0]).seq (NC.block 0 wz.loop)))),34, [.tmp e.f]⟩
theorem wg:ak Tryd.prog 70=some (.code Ck):=by kernel_rfl
noncomputable def AA:NFun:=⟨(reg [o e.f (.move (k 0)) 0]).seq ((reg [m e.a.a e 0,m e.a.b e.a 1,o e.a.c (.call (F 97) [t e.a.a,t e.a.b]) 2,m e.f e.a.c 3]).seq NC.ret),8, [.tmp e.f]⟩
theorem vt:ak Tryd.prog 71=some (.code AA):=by kernel_rfl
noncomputable def BL:NFun:=⟨(reg [o e.a.b (.move (k 0)) 0,o e.a.c (.move (.const .nili)) 1]).seq (((reg [m e.b.f e 0,b e.c.a .eql (t e.b.f) (.const (.str [])) 1]).seq (NC.cond (t e.c.a) ((reg [o e.c.b (.mkIfc 132 (k 2)) 0,o e.a.b (.move (k 0)) 1,m e.a.c e.c.b 2]).seq NC.ret) NC.skip)).seq ((reg [o e.a.f (.move kf) 0]).seq (((reg [m e.c.c e 0,o e.c.f (.indexStr (t e.c.c) (k 0)) 1]).seq (NC.block 0 ((reg [b e.f.b .eql (t e.c.f) (kb 43) 0,m e.f.a e.f.b 1]).seq (NC.cond (t e.f.a) (reg [m e.f.c e 0,o e.f.f (.sliceStr (t e.f.c) (some (k 1)) none) 1,m e e.f.f 2]) ((reg [b e.a.a.b .eql (t e.c.f) (kb 45) 0,m e.a.a.a e.a.a.b 1]).seq (NC.cond (t e.a.a.a) ((reg [m e.a.a.c e 0,o e.a.a.f (.sliceStr (t e.a.a.c) (some (k 1)) none) 1,m e e.a.a.f 2]).seq (reg [o e.a.f (.move kt) 0])) NC.skip)))))).seq ((reg [o e.b.a (.move (ku 0)) 0]).seq ((reg [m e.a.b.b e 0,m e.a.b.c e.a 1,m e.a.b.f e.b 2,o e.a.c.a (.call (F 98) [t e.a.b.b,t e.a.b.c,t e.a.b.f]) 3,m e.a.b.a e.a.c.a 4,x e.a.c.b e.a.b.a 0 5,x e.a.c.c e.a.b.a 1 6,m e.b.a e.a.c.b 7,m e.a.c e.a.c.c 8]).seq (((reg [m e.a.c.f e.a.c 0,o e.a.f.a (.bin .ifc .neq (t e.a.c.f) (.const .nili)) 1,m e.a.f.b e.a.f.a 2,G e.a.f.c (.move (t e.a.c)) e.a.f.b true 3,G e.a.f.f (.mkIfc 132 (k 1)) e.a.f.b true 4,G e.b.a.a (.bin (.ifc2 [215,214,212,211,132,106,70,54,27,21,12,6,5,3,2]) .neq (t e.a.f.c) (t e.a.f.f)) e.a.f.b true 5,o e.b.a.b (.pick (t e.a.f.b) (t e.b.a.a) kf) 6]).seq (NC.cond (t e.b.a.b) ((reg [m e.b.a.c e.a.c 0,o e.a.b (.move (k 0)) 1,m e.a.c e.b.a.c 2]).seq NC.ret) NC.skip)).seq (((reg [m e.b.a.f e.b 0,b e.b.b.a .eql (t e.b.a.f) (k 0) 1]).seq (NC.cond (t e.b.b.a) (reg [o e.b (.move (k 64)) 0]) NC.skip)).seq ((reg [m e.b.b.b e.b 0,b e.b.b.c .sub (t e.b.b.b) (k 1) 1,o e.b.b.f (.toInt .u64 (t e.b.b.c)) 2,b e.b.c.a .shl (ku 1) (t e.b.b.f) 3,m e.b.b e.b.c.a 4]).seq (((reg [m e.b.c.b e.a.f 0,o e.b.c.c (.un .not (t e.b.c.b)) 1,m e.b.c.f e.b.c.c 2,G e.b.f.a (.move (t e.b.a)) e.b.c.f true 3,G e.b.f.b (.move (t e.b.b)) e.b.c.f true 4,G e.b.f.c (.bin .num .geq (t e.b.f.a) (t e.b.f.b)) e.b.c.f true 5,o e.b.f.f (.pick (t e.b.c.f) (t e.b.f.c) kf) 6]).seq (NC.cond (t e.b.f.f) ((reg [m e.c.a.a e.b.b 0,b e.c.a.b .sub (t e.c.a.a) (ku 1) 1,o e.c.a.c (.toInt .i64 (t e.c.a.b)) 2,o e.c.a.f (.mkIfc 132 (k 1)) 3,m e.a.b e.c.a.c 4,m e.a.c e.c.a.f 5]).seq NC.ret) NC.skip)).seq (((reg [m e.c.b.a e.a.f 0,m e.c.b.b e.c.b.a 1,G e.c.b.c (.move (t e.b.a)) e.c.b.b true 2,G e.c.b.f (.move (t e.b.b)) e.c.b.b true 3,G e.c.c.a (.bin .num .gtr (t e.c.b.c) (t e.c.b.f)) e.c.b.b true 4,o e.c.c.b (.pick (t e.c.b.b) (t e.c.c.a) kf) 5]).seq (NC.cond (t e.c.c.b) ((reg [m e.c.c.c e.b.b 0,o e.c.c.f (.toInt .i64 (t e.c.c.c)) 1,o e.c.f.a (.un .neg (t e.c.c.f)) 2,o e.c.f.b (.mkIfc 132 (k 1)) 3,m e.a.b e.c.f.a 4,m e.a.c e.c.f.b 5]).seq NC.ret) NC.skip)).seq ((reg [m e.c.f.c e.b.a 0,o e.c.f.f (.toInt .i64 (t e.c.f.c)) 1,m e.b.c e.c.f.f 2]).seq (((reg [m e.f.a.a e.a.f 0]).seq (NC.cond (t e.f.a.a) (reg [m e.f.a.b e.b.c 0,o e.f.a.c (.un .neg (t e.f.a.b)) 1,m e.b.c e.f.a.c 2]) NC.skip)).seq ((reg [m e.f.a.f e.b.c 0,m e.a.b e.f.a.f 1,o e.a.c (.move (.const .nili)) 2]).seq NC.ret))))))))))))),73, [.tmp e.a.b,.tmp e.a.c]⟩
theorem wF:ak Tryd.prog 72=some (.code BL):=by kernel_rfl
noncomputable def Az:NFun:=⟨(reg [o e.f (.move (.const .nilp)) 0]).seq ((regD [m e.a.a e 0,m e.a.b e.a 1,o e.a.f (.load1 (.const (.ptr e 0))) 3,O e.a.c (.call (F 99) [t e.a.b]) 2 2,O e.b.a (.build [.str [],.str [],.nili] [(0,1,t e.a.a),(1,1,t e.a.c),(2,1,t e.a.f)]) 15 4,O e.b.b (.box (t e.b.a) 165) 31 5,O e.f (.move (t e.b.b)) 63 6]).seq NC.ret),11, [.tmp e.f]⟩
theorem vZ:ak Tryd.prog 73=some (.code Az):=by kernel_rfl
noncomputable def Bi:NFun:=⟨(reg [o e.f (.move (.const .nilp)) 0]).seq ((regD [m e.a.a e 0,m e.a.b e.a 1,o e.a.f (.load1 (.const (.ptr e.a 0))) 3,O e.a.c (.call (F 99) [t e.a.b]) 2 2,O e.b.a (.build [.str [],.str [],.nili] [(0,1,t e.a.a),(1,1,t e.a.c),(2,1,t e.a.f)]) 15 4,O e.b.b (.box (t e.b.a) 165) 31 5,O e.f (.move (t e.b.b)) 63 6]).seq NC.ret),11, [.tmp e.f]⟩
theorem vz:ak Tryd.prog 74=some (.code Bi):=by kernel_rfl
noncomputable def B3:NFun:=⟨(reg [o e.a.b (.move (.const .nilp)) 0]).seq ((reg [m e.a.c e 0,m e.a.f e.a 1,o e.b.a (.call (F 99) [t e.a.f]) 2,m e.b.b e.b 3,o e.b.c (.call (F 20) [t e.b.b]) 4,b e.b.f .add (.const (.str [105,110,118,97,108,105,100,32,98,97,115,101,32])) (t e.b.c) 5,o e.c.a (.call (F 100) [t e.b.f]) 6,o e.c.b (.build [.str [],.str [],.nili] [(0,1,t e.a.c),(1,1,t e.b.a),(2,1,t e.c.a)]) 7,o e.c.c (.box (t e.c.b) 165) 8,m e.a.b e.c.c 9]).seq NC.ret),16, [.tmp e.a.b]⟩
theorem xN:ak Tryd.prog 75=some (.code B3):=by kernel_rfl
noncomputable def Bm:NFun:=⟨(reg [o e.a.b (.move (.const .nilp)) 0]).seq ((reg [m e.a.c e 0,m e.a.f e.a 1,o e.b.a (.call (F 99) [t e.a.f]) 2,m e.b.b e.b 3,o e.b.c (.call (F 20) [t e.b.b]) 4,b e.b.f .add (.const (.str [105,110,118,97,108,105,100,32,98,105,116,32,115,105,122,101,32])) (t e.b.c) 5,o e.c.a (.call (F 100) [t e.b.f]) 6,o e.c.b (.build [.str [],.str [],.nili] [(0,1,t e.a.c),(1,1,t e.b.a),(2,1,t e.c.a)]) 7,o e.c.c (.box (t e.c.b) 165) 8,m e.a.b e.c.c 9]).seq NC.ret),16, [.tmp e.a.b]⟩
theorem v7:ak Tryd.prog 76=some (.code Bm):=by kernel_rfl
noncomputable def y6:NFun:=⟨(reg [o e.f (.move (k 0)) 0,o e.a.a (.move (k 0)) 1]).seq ((reg [m e.a.b e 0,o e.a.c (.minmax false [t e.a.b,k 32]) 1,o e.a.f (.minmax true [k 0,t e.a.c]) 2,m e e.a.f 3]).seq ((reg [m e.b.a e 0,m e.b.b e.a 1,m e.b.c e 2,b e.b.f .sub (k 32) (t e.b.c) 3,o e.c.a (.minmax false [t e.b.b,t e.b.f]) 4,o e.c.b (.minmax true [k 0,t e.c.a]) 5,m e.f e.b.a 6,m e.a.a e.c.b 7]).seq NC.ret)),15, [.tmp e.f,.tmp e.a.a]⟩
theorem qr:ak Tryd.prog 89=some (.code y6):=by kernel_rfl
noncomputable def By:NFun:=⟨(reg [o e.b (.move (.const (.str []))) 0]).seq (((reg [m e.c e 0,b e.f .lss (t e.c) (k 10) 1]).seq (NC.cond (t e.f) ((reg [m e.a.a e 0,m e.a.b e 1,b e.a.c .add (t e.a.b) (k 1) 2,o e.a.f (.sliceStr (.const (.str [48,49,50,51,52,53,54,55,56,57,97,98,99,100,101,102,103,104,105,106,107,108,109,110,111,112,113,114,115,116,117,118,119,120,121,122])) (some (t e.a.a)) (some (t e.a.c))) 3,m e.b e.a.f 4]).seq NC.ret) NC.skip)).seq ((reg [m e.b.a e 0,b e.b.b .mul (t e.b.a) (k 2) 1,m e.b.c e 2,b e.b.f .mul (t e.b.c) (k 2) 3,b e.c.a .add (t e.b.f) (k 2) 4,o e.c.b (.sliceStr (.const (.str [48,48,48,49,48,50,48,51,48,52,48,53,48,54,48,55,48,56,48,57,49,48,49,49,49,50,49,51,49,52,49,53,49,54,49,55,49,56,49,57,50,48,50,49,50,50,50,51,50,52,50,53,50,54,50,55,50,56,50,57,51,48,51,49,51,50,51,51,51,52,51,53,51,54,51,55,51,56,51,57,52,48,52,49,52,50,52,51,52,52,52,53,52,54,52,55,52,56,52,57,53,48,53,49,53,50,53,51,53,52,53,53,53,54,53,55,53,56,53,57,54,48,54,49,54,50,54,51,54,52,54,53,54,54,54,55,54,56,54,57,55,48,55,49,55,50,55,51,55,52,55,53,55,54,55,55,55,56,55,57,56,48,56,49,56,50,56,51,56,52,56,53,56,54,56,55,56,56,56,57,57,48,57,49,57,50,57,51,57,52,57,53,57,54,57,55,57,56,57,57])) (some (t e.b.b)) (some (t e.c.a))) 5,m e.b e.c.b 6]).seq NC.ret)),15, [.tmp e.b]⟩
theorem vW:ak Tryd.prog 90=some (.code By):=by kernel_rfl
noncomputable def Bv:NFun:=⟨(reg [o e.b (.move (k 0)) 0]).seq ((reg [m e.f e 0,o e.a.a (.call (F 120) [t e.f]) 1,o e.a.b (.call (F 119) [t e.a.a]) 2,m e.c e.a.b 3]).seq ((reg [m e.a.c e.c 0,m e.a.f e 1,m e.b.a e.c 2,o e.b.b (.indexArr 1 20 (.const (.ptr e.b 0)) (t e.b.a)) 3,l e.b.c e.b.b 4,b e.b.f .geq (t e.a.f) (t e.b.c) 5,o e.c.a (.call (F 121) [t e.b.f]) 6,b e.c.b .add (t e.a.c) (t e.c.a) 7,m e.b e.c.b 8]).seq NC.ret)),15, [.tmp e.b]⟩
theorem we:ak Tryd.prog 91=some (.code Bv):=by kernel_rfl
noncomputable def x0:NC:=(((reg [m e.f.c e.f 0,b e.f.f .geq (t e.f.c) (k 8) 1]).seq (NC.cond (t e.f.f) NC.skip (NC.exit 0))).seq (NC.block 1 ((reg [m e.a.a.a e.a 0,b e.a.a.b .rem (t e.a.a.a) (ku 100000000) 1,o e.a.a.c (.toInt .u32 (t e.a.a.b)) 2,m e.a.a e.a.a.c 3]).seq ((reg [m e.a.a.f e.a 0,b e.a.b.a .quo (t e.a.a.f) (ku 100000000) 1,m e.a e.a.b.a 2]).seq ((reg [m e.a.b.b e.a.a 0,b e.a.b.c .quo (t e.a.b.b) (.const (.int .u32 (.lit 10000))) 1,m e.a.b.f e.a.a 2,b e.a.c.a .rem (t e.a.b.f) (.const (.int .u32 (.lit 10000))) 3,m e.a.b e.a.b.c 4,m e.a.c e.a.c.a 5]).seq ((reg [m e.a.c.b e.a.c 0,b e.a.c.c .quo (t e.a.c.b) (.const (.int .u32 (.lit 100))) 1,b e.a.c.f .mul (t e.a.c.c) (.const (.int .u32 (.lit 2))) 2,m e.a.f.a e.a.c 3,b e.a.f.b .rem (t e.a.f.a) (.const (.int .u32 (.lit 100))) 4,b e.a.f.c .mul (t e.a.f.b) (.const (.int .u32 (.lit 2))) 5,m e.a.f e.a.c.f 6,m e.b.a e.a.f.c 7]).seq ((reg [m e.a.f.f e.a.b 0,b e.b.a.a .quo (t e.a.f.f) (.const (.int .u32 (.lit 100))) 1,b e.b.a.b .mul (t e.b.a.a) (.const (.int .u32 (.lit 2))) 2,m e.b.a.c e.a.b 3,b e.b.a.f .rem (t e.b.a.c) (.const (.int .u32 (.lit 100))) 4,b e.b.b.a .mul (t e.b.a.f) (.const (.int .u32 (.lit 2))) 5,m e.b.b e.b.a.b 6,m e.b.c e.b.b.a 7]).seq ((regD [m e.b.b.b e 0,m e.b.b.c e.f 1,O e.b.b.f (.bin .num .sub (t e.b.b.c) (k 1)) 2 2,m e.b.c.a e 3,m e.b.c.b e.f 4,O e.b.c.c (.bin .num .sub (t e.b.c.b) (k 2)) 16 5,m e.b.c.f e.b.a 6,O e.b.f.a (.bin .num .add (t e.b.c.f) (.const (.int .u32 (.lit 1)))) 64 7,O e.b.f.b (.indexStr (.const (.str [48,48,48,49,48,50,48,51,48,52,48,53,48,54,48,55,48,56,48,57,49,48,49,49,49,50,49,51,49,52,49,53,49,54,49,55,49,56,49,57,50,48,50,49,50,50,50,51,50,52,50,53,50,54,50,55,50,56,50,57,51,48,51,49,51,50,51,51,51,52,51,53,51,54,51,55,51,56,51,57,52,48,52,49,52,50,52,51,52,52,52,53,52,54,52,55,52,56,52,57,53,48,53,49,53,50,53,51,53,52,53,53,53,54,53,55,53,56,53,57,54,48,54,49,54,50,54,51,54,52,54,53,54,54,54,55,54,56,54,57,55,48,55,49,55,50,55,51,55,52,55,53,55,54,55,55,55,56,55,57,56,48,56,49,56,50,56,51,56,52,56,53,56,54,56,55,56,56,56,57,57,48,57,49,57,50,57,51,57,52,57,53,57,54,57,55,57,56,57,57])) (t e.b.f.a)) 192 8,m e.b.f.c e.b.a 9,O e.b.f.f (.indexStr (.const (.str [48,48,48,49,48,50,48,51,48,52,48,53,48,54,48,55,48,56,48,57,49,48,49,49,49,50,49,51,49,52,49,53,49,54,49,55,49,56,49,57,50,48,50,49,50,50,50,51,50,52,50,53,50,54,50,55,50,56,50,57,51,48,51,49,51,50,51,51,51,52,51,53,51,54,51,55,51,56,51,57,52,48,52,49,52,50,52,51,52,52,52,53,52,54,52,55,52,56,52,57,53,48,53,49,53,50,53,51,53,52,53,53,53,54,53,55,53,56,53,57,54,48,54,49,54,50,54,51,54,52,54,53,54,54,54,55,54,56,54,57,55,48,55,49,55,50,55,51,55,52,55,53,55,54,55,55,55,56,55,57,56,48,56,49,56,50,56,51,56,52,56,53,56,54,56,55,56,56,56,57,57,48,57,49,57,50,57,51,57,52,57,53,57,54,57,55,57,56,57,57])) (t e.b.f.c)) 512 10,O e.c.a.a (.indexSlc 1 (t e.b.b.b) (t e.b.b.f)) 455 11,⟨none,.store 1 (t e.c.a.a) (t e.b.f.b),none,2503,12⟩,O e.c.a.b (.indexSlc 1 (t e.b.c.a) (t e.b.c.c)) 8191 13,⟨none,.store 1 (t e.c.a.b) (t e.b.f.f),none,16383,14⟩]).seq ((regD [m e.c.a.c e 0,m e.c.a.f e.f 1,O e.c.b.a (.bin .num .sub (t e.c.a.f) (k 3)) 2 2,m e.c.b.b e 3,m e.c.b.c e.f 4,O e.c.b.f (.bin .num .sub (t e.c.b.c) (k 4)) 16 5,m e.c.c.a e.a.f 6,O e.c.c.b (.bin .num .add (t e.c.c.a) (.const (.int .u32 (.lit 1)))) 64 7,O e.c.c.c (.indexStr (.const (.str [48,48,48,49,48,50,48,51,48,52,48,53,48,54,48,55,48,56,48,57,49,48,49,49,49,50,49,51,49,52,49,53,49,54,49,55,49,56,49,57,50,48,50,49,50,50,50,51,50,52,50,53,50,54,50,55,50,56,50,57,51,48,51,49,51,50,51,51,51,52,51,53,51,54,51,55,51,56,51,57,52,48,52,49,52,50,52,51,52,52,52,53,52,54,52,55,52,56,52,57,53,48,53,49,53,50,53,51,53,52,53,53,53,54,53,55,53,56,53,57,54,48,54,49,54,50,54,51,54,52,54,53,54,54,54,55,54,56,54,57,55,48,55,49,55,50,55,51,55,52,55,53,55,54,55,55,55,56,55,57,56,48,56,49,56,50,56,51,56,52,56,53,56,54,56,55,56,56,56,57,57,48,57,49,57,50,57,51,57,52,57,53,57,54,57,55,57,56,57,57])) (t e.c.c.b)) 192 8,m e.c.c.f e.a.f 9,O e.c.f.a (.indexStr (.const (.str [48,48,48,49,48,50,48,51,48,52,48,53,48,54,48,55,48,56,48,57,49,48,49,49,49,50,49,51,49,52,49,53,49,54,49,55,49,56,49,57,50,48,50,49,50,50,50,51,50,52,50,53,50,54,50,55,50,56,50,57,51,48,51,49,51,50,51,51,51,52,51,53,51,54,51,55,51,56,51,57,52,48,52,49,52,50,52,51,52,52,52,53,52,54,52,55,52,56,52,57,53,48,53,49,53,50,53,51,53,52,53,53,53,54,53,55,53,56,53,57,54,48,54,49,54,50,54,51,54,52,54,53,54,54,54,55,54,56,54,57,55,48,55,49,55,50,55,51,55,52,55,53,55,54,55,55,55,56,55,57,56,48,56,49,56,50,56,51,56,52,56,53,56,54,56,55,56,56,56,57,57,48,57,49,57,50,57,51,57,52,57,53,57,54,57,55,57,56,57,57])) (t e.c.c.f)) 512 10,O e.c.f.b (.indexSlc 1 (t e.c.a.c) (t e.c.b.a)) 455 11,⟨none,.store 1 (t e.c.f.b) (t e.c.c.c),none,2503,12⟩,O e.c.f.c (.indexSlc 1 (t e.c.b.b) (t e.c.b.f)) 8191 13,⟨none,.store 1 (t e.c.f.c) (t e.c.f.a),none,16383,14⟩]).seq ((regD [m e.c.f.f e 0,m e.f.a.a e.f 1,O e.f.a.b (.bin .num .sub (t e.f.a.a) (k 5)) 2 2,m e.f.a.c e 3,m e.f.a.f e.f 4,O e.f.b.a (.bin .num .sub (t e.f.a.f) (k 6)) 16 5,m e.f.b.b e.b.c 6,O e.f.b.c (.bin .num .add (t e.f.b.b) (.const (.int .u32 (.lit 1)))) 64 7,O e.f.b.f (.indexStr (.const (.str [48,48,48,49,48,50,48,51,48,52,48,53,48,54,48,55,48,56,48,57,49,48,49,49,49,50,49,51,49,52,49,53,49,54,49,55,49,56,49,57,50,48,50,49,50,50,50,51,50,52,50,53,50,54,50,55,50,56,50,57,51,48,51,49,51,50,51,51,51,52,51,53,51,54,51,55,51,56,51,57,52,48,52,49,52,50,52,51,52,52,52,53,52,54,52,55,52,56,52,57,53,48,53,49,53,50,53,51,53,52,53,53,53,54,53,55,53,56,53,57,54,48,54,49,54,50,54,51,54,52,54,53,54,54,54,55,54,56,54,57,55,48,55,49,55,50,55,51,55,52,55,53,55,54,55,55,55,56,55,57,56,48,56,49,56,50,56,51,56,52,56,53,56,54,56,55,56,56,56,57,57,48,57,49,57,50,57,51,57,52,57,53,57,54,57,55,57,56,57,57])) (t e.f.b.c)) 192 8,m e.f.c.a e.b.c 9,O e.f.c.b (.indexStr (.const (.str [48,48,48,49,48,50,48,51,48,52,48,53,48,54,48,55,48,56,48,57,49,48,49,49,49,50,49,51,49,52,49,53,49,54,49,55,49,56,49,57,50,48,50,49,50,50,50,51,50,52,50,53,50,54,50,55,50,56,50,57,51,48,51,49,51,50,51,51,51,52,51,53,51,54,51,55,51,56,51,57,52,48,52,49,52,50,52,51,52,52,52,53,52,54,52,55,52,56,52,57,53,48,53,49,53,50,53,51,53,52,53,53,53,54,53,55,53,56,53,57,54,48,54,49,54,50,54,51,54,52,54,53,54,54,54,55,54,56,54,57,55,48,55,49,55,50,55,51,55,52,55,53,55,54,55,55,55,56,55,57,56,48,56,49,56,50,56,51,56,52,56,53,56,54,56,55,56,56,56,57,57,48,57,49,57,50,57,51,57,52,57,53,57,54,57,55,57,56,57,57])) (t e.f.c.a)) 512 10,O e.f.c.c (.indexSlc 1 (t e.c.f.f) (t e.f.a.b)) 455 11,⟨none,.store 1 (t e.f.c.c) (t e.f.b.f),none,2503,12⟩,O e.f.c.f (.indexSlc 1 (t e.f.a.c) (t e.f.b.a)) 8191 13,⟨none,.store 1 (t e.f.c.f) (t e.f.c.b),none,16383,14⟩]).seq ((regD [m e.f.f.a e 0,m e.f.f.b e.f 1,O e.f.f.c (.bin .num .sub (t e.f.f.b) (k 7)) 2 2,m e.f.f.f e 3,m e.a.a.a.a e.f 4,O e.a.a.a.b (.bin .num .sub (t e.a.a.a.a) (k 8)) 16 5,m e.a.a.a.c e.b.b 6,O e.a.a.a.f (.bin .num .add (t e.a.a.a.c) (.const (.int .u32 (.lit 1)))) 64 7,O e.a.a.b.a (.indexStr (.const (.str [48,48,48,49,48,50,48,51,48,52,48,53,48,54,48,55,48,56,48,57,49,48,49,49,49,50,49,51,49,52,49,53,49,54,49,55,49,56,49,57,50,48,50,49,50,50,50,51,50,52,50,53,50,54,50,55,50,56,50,57,51,48,51,49,51,50,51,51,51,52,51,53,51,54,51,55,51,56,51,57,52,48,52,49,52,50,52,51,52,52,52,53,52,54,52,55,52,56,52,57,53,48,53,49,53,50,53,51,53,52,53,53,53,54,53,55,53,56,53,57,54,48,54,49,54,50,54,51,54,52,54,53,54,54,54,55,54,56,54,57,55,48,55,49,55,50,55,51,55,52,55,53,55,54,55,55,55,56,55,57,56,48,56,49,56,50,56,51,56,52,56,53,56,54,56,55,56,56,56,57,57,48,57,49,57,50,57,51,57,52,57,53,57,54,57,55,57,56,57,57])) (t e.a.a.a.f)) 192 8,m e.a.a.b.b e.b.b 9,O e.a.a.b.c (.indexStr (.const (.str [48,48,48,49,48,50,48,51,48,52,48,53,48,54,48,55,48,56,48,57,49,48,49,49,49,50,49,51,49,52,49,53,49,54,49,55,49,56,49,57,50,48,50,49,50,50,50,51,50,52,50,53,50,54,50,55,50,56,50,57,51,48,51,49,51,50,51,51,51,52,51,53,51,54,51,55,51,56,51,57,52,48,52,49,52,50,52,51,52,52,52,53,52,54,52,55,52,56,52,57,53,48,53,49,53,50,53,51,53,52,53,53,53,54,53,55,53,56,53,57,54,48,54,49,54,50,54,51,54,52,54,53,54,54,54,55,54,56,54,57,55,48,55,49,55,50,55,51,55,52,55,53,55,54,55,55,55,56,55,57,56,48,56,49,56,50,56,51,56,52,56,53,56,54,56,55,56,56,56,57,57,48,57,49,57,50,57,51,57,52,57,53,57,54,57,55,57,56,57,57])) (t e.a.a.b.b)) 512 10,O e.a.a.b.f (.indexSlc 1 (t e.f.f.a) (t e.f.f.c)) 455 11,⟨none,.store 1 (t e.a.a.b.f) (t e.a.a.b.a),none,2503,12⟩,O e.a.a.c.a (.indexSlc 1 (t e.f.f.f) (t e.a.a.a.b)) 8191 13,⟨none,.store 1 (t e.a.a.c.a) (t e.a.a.b.c),none,16383,14⟩]).seq (reg [m e.a.a.c.b e.f 0,b e.a.a.c.c .sub (t e.a.a.c.b) (k 8) 1,m e.f e.a.a.c.c 2]))))))))))))
noncomputable def BF:NFun:=⟨(reg [m e.f.a e 0,L e.f.b e.f.a 1,m e.f e.f.b 2]).seq ((NC.block 0 x0.loop).seq ((reg [m e.a.a.c.f e.a 0,o e.a.a.f.a (.toInt .u32 (t e.a.a.c.f)) 1,m e.b.f e.a.a.f.a 2]).seq (((reg [m e.a.a.f.b e.f 0,b e.a.a.f.c .geq (t e.a.a.f.b) (k 4) 1]).seq (NC.cond (t e.a.a.f.c) ((reg [m e.a.a.f.f e.b.f 0,b e.a.b.a.a .rem (t e.a.a.f.f) (.const (.int .u32 (.lit 10000))) 1,m e.c.a e.a.b.a.a 2]).seq ((reg [m e.a.b.a.b e.b.f 0,b e.a.b.a.c .quo (t e.a.b.a.b) (.const (.int .u32 (.lit 10000))) 1,m e.b.f e.a.b.a.c 2]).seq ((reg [m e.a.b.a.f e.c.a 0,b e.a.b.b.a .quo (t e.a.b.a.f) (.const (.int .u32 (.lit 100))) 1,b e.a.b.b.b .mul (t e.a.b.b.a) (.const (.int .u32 (.lit 2))) 2,m e.a.b.b.c e.c.a 3,b e.a.b.b.f .rem (t e.a.b.b.c) (.const (.int .u32 (.lit 100))) 4,b e.a.b.c.a .mul (t e.a.b.b.f) (.const (.int .u32 (.lit 2))) 5,m e.c.b e.a.b.b.b 6,m e.c.c e.a.b.c.a 7]).seq ((regD [m e.a.b.c.b e 0,m e.a.b.c.c e.f 1,O e.a.b.c.f (.bin .num .sub (t e.a.b.c.c) (k 1)) 2 2,m e.a.b.f.a e 3,m e.a.b.f.b e.f 4,O e.a.b.f.c (.bin .num .sub (t e.a.b.f.b) (k 2)) 16 5,m e.a.b.f.f e.c.c 6,O e.a.c.a.a (.bin .num .add (t e.a.b.f.f) (.const (.int .u32 (.lit 1)))) 64 7,O e.a.c.a.b (.indexStr (.const (.str [48,48,48,49,48,50,48,51,48,52,48,53,48,54,48,55,48,56,48,57,49,48,49,49,49,50,49,51,49,52,49,53,49,54,49,55,49,56,49,57,50,48,50,49,50,50,50,51,50,52,50,53,50,54,50,55,50,56,50,57,51,48,51,49,51,50,51,51,51,52,51,53,51,54,51,55,51,56,51,57,52,48,52,49,52,50,52,51,52,52,52,53,52,54,52,55,52,56,52,57,53,48,53,49,53,50,53,51,53,52,53,53,53,54,53,55,53,56,53,57,54,48,54,49,54,50,54,51,54,52,54,53,54,54,54,55,54,56,54,57,55,48,55,49,55,50,55,51,55,52,55,53,55,54,55,55,55,56,55,57,56,48,56,49,56,50,56,51,56,52,56,53,56,54,56,55,56,56,56,57,57,48,57,49,57,50,57,51,57,52,57,53,57,54,57,55,57,56,57,57])) (t e.a.c.a.a)) 192 8,m e.a.c.a.c e.c.c 9,O e.a.c.a.f (.indexStr (.const (.str [48,48,48,49,48,50,48,51,48,52,48,53,48,54,48,55,48,56,48,57,49,48,49,49,49,50,49,51,49,52,49,53,49,54,49,55,49,56,49,57,50,48,50,49,50,50,50,51,50,52,50,53,50,54,50,55,50,56,50,57,51,48,51,49,51,50,51,51,51,52,51,53,51,54,51,55,51,56,51,57,52,48,52,49,52,50,52,51,52,52,52,53,52,54,52,55,52,56,52,57,53,48,53,49,53,50,53,51,53,52,53,53,53,54,53,55,53,56,53,57,54,48,54,49,54,50,54,51,54,52,54,53,54,54,54,55,54,56,54,57,55,48,55,49,55,50,55,51,55,52,55,53,55,54,55,55,55,56,55,57,56,48,56,49,56,50,56,51,56,52,56,53,56,54,56,55,56,56,56,57,57,48,57,49,57,50,57,51,57,52,57,53,57,54,57,55,57,56,57,57])) (t e.a.c.a.c)) 512 10,O e.a.c.b.a (.indexSlc 1 (t e.a.b.c.b) (t e.a.b.c.f)) 455 11,⟨none,.store 1 (t e.a.c.b.a) (t e.a.c.a.b),none,2503,12⟩,O e.a.c.b.b (.indexSlc 1 (t e.a.b.f.a) (t e.a.b.f.c)) 8191 13,⟨none,.store 1 (t e.a.c.b.b) (t e.a.c.a.f),none,16383,14⟩]).seq ((regD [m e.a.c.b.c e 0,m e.a.c.b.f e.f 1,O e.a.c.c.a (.bin .num .sub (t e.a.c.b.f) (k 3)) 2 2,m e.a.c.c.b e 3,m e.a.c.c.c e.f 4,O e.a.c.c.f (.bin .num .sub (t e.a.c.c.c) (k 4)) 16 5,m e.a.c.f.a e.c.b 6,O e.a.c.f.b (.bin .num .add (t e.a.c.f.a) (.const (.int .u32 (.lit 1)))) 64 7,O e.a.c.f.c (.indexStr (.const (.str [48,48,48,49,48,50,48,51,48,52,48,53,48,54,48,55,48,56,48,57,49,48,49,49,49,50,49,51,49,52,49,53,49,54,49,55,49,56,49,57,50,48,50,49,50,50,50,51,50,52,50,53,50,54,50,55,50,56,50,57,51,48,51,49,51,50,51,51,51,52,51,53,51,54,51,55,51,56,51,57,52,48,52,49,52,50,52,51,52,52,52,53,52,54,52,55,52,56,52,57,53,48,53,49,53,50,53,51,53,52,53,53,53,54,53,55,53,56,53,57,54,48,54,49,54,50,54,51,54,52,54,53,54,54,54,55,54,56,54,57,55,48,55,49,55,50,55,51,55,52,55,53,55,54,55,55,55,56,55,57,56,48,56,49,56,50,56,51,56,52,56,53,56,54,56,55,56,56,56,57,57,48,57,49,57,50,57,51,57,52,57,53,57,54,57,55,57,56,57,57])) (t e.a.c.f.b)) 192 8,m e.a.c.f.f e.c.b 9,O e.a.f.a.a (.indexStr (.const (.str [48,48,48,49,48,50,48,51,48,52,48,53,48,54,48,55,48,56,48,57,49,48,49,49,49,50,49,51,49,52,49,53,49,54,49,55,49,56,49,57,50,48,50,49,50,50,50,51,50,52,50,53,50,54,50,55,50,56,50,57,51,48,51,49,51,50,51,51,51,52,51,53,51,54,51,55,51,56,51,57,52,48,52,49,52,50,52,51,52,52,52,53,52,54,52,55,52,56,52,57,53,48,53,49,53,50,53,51,53,52,53,53,53,54,53,55,53,56,53,57,54,48,54,49,54,50,54,51,54,52,54,53,54,54,54,55,54,56,54,57,55,48,55,49,55,50,55,51,55,52,55,53,55,54,55,55,55,56,55,57,56,48,56,49,56,50,56,51,56,52,56,53,56,54,56,55,56,56,56,57,57,48,57,49,57,50,57,51,57,52,57,53,57,54,57,55,57,56,57,57])) (t e.a.c.f.f)) 512 10,O e.a.f.a.b (.indexSlc 1 (t e.a.c.b.c) (t e.a.c.c.a)) 455 11,⟨none,.store 1 (t e.a.f.a.b) (t e.a.c.f.c),none,2503,12⟩,O e.a.f.a.c (.indexSlc 1 (t e.a.c.c.b) (t e.a.c.c.f)) 8191 13,⟨none,.store 1 (t e.a.f.a.c) (t e.a.f.a.a),none,16383,14⟩]).seq (reg [m e.a.f.a.f e.f 0,b e.a.f.b.a .sub (t e.a.f.a.f) (k 4) 1,m e.f e.a.f.b.a 2])))))) NC.skip)).seq (((reg [m e.a.f.b.b e.f 0,b e.a.f.b.c .geq (t e.a.f.b.b) (k 2) 1]).seq (NC.cond (t e.a.f.b.c) ((reg [m e.a.f.b.f e.b.f 0,b e.a.f.c.a .rem (t e.a.f.b.f) (.const (.int .u32 (.lit 100))) 1,b e.a.f.c.b .mul (t e.a.f.c.a) (.const (.int .u32 (.lit 2))) 2,m e.c.f e.a.f.c.b 3]).seq ((reg [m e.a.f.c.c e.b.f 0,b e.a.f.c.f .quo (t e.a.f.c.c) (.const (.int .u32 (.lit 100))) 1,m e.b.f e.a.f.c.f 2]).seq ((regD [m e.a.f.f.a e 0,m e.a.f.f.b e.f 1,O e.a.f.f.c (.bin .num .sub (t e.a.f.f.b) (k 1)) 2 2,m e.a.f.f.f e 3,m e.b.a.a.a e.f 4,O e.b.a.a.b (.bin .num .sub (t e.b.a.a.a) (k 2)) 16 5,m e.b.a.a.c e.c.f 6,O e.b.a.a.f (.bin .num .add (t e.b.a.a.c) (.const (.int .u32 (.lit 1)))) 64 7,O e.b.a.b.a (.indexStr (.const (.str [48,48,48,49,48,50,48,51,48,52,48,53,48,54,48,55,48,56,48,57,49,48,49,49,49,50,49,51,49,52,49,53,49,54,49,55,49,56,49,57,50,48,50,49,50,50,50,51,50,52,50,53,50,54,50,55,50,56,50,57,51,48,51,49,51,50,51,51,51,52,51,53,51,54,51,55,51,56,51,57,52,48,52,49,52,50,52,51,52,52,52,53,52,54,52,55,52,56,52,57,53,48,53,49,53,50,53,51,53,52,53,53,53,54,53,55,53,56,53,57,54,48,54,49,54,50,54,51,54,52,54,53,54,54,54,55,54,56,54,57,55,48,55,49,55,50,55,51,55,52,55,53,55,54,55,55,55,56,55,57,56,48,56,49,56,50,56,51,56,52,56,53,56,54,56,55,56,56,56,57,57,48,57,49,57,50,57,51,57,52,57,53,57,54,57,55,57,56,57,57])) (t e.b.a.a.f)) 192 8,m e.b.a.b.b e.c.f 9,O e.b.a.b.c (.indexStr (.const (.str [48,48,48,49,48,50,48,51,48,52,48,53,48,54,48,55,48,56,48,57,49,48,49,49,49,50,49,51,49,52,49,53,49,54,49,55,49,56,49,57,50,48,50,49,50,50,50,51,50,52,50,53,50,54,50,55,50,56,50,57,51,48,51,49,51,50,51,51,51,52,51,53,51,54,51,55,51,56,51,57,52,48,52,49,52,50,52,51,52,52,52,53,52,54,52,55,52,56,52,57,53,48,53,49,53,50,53,51,53,52,53,53,53,54,53,55,53,56,53,57,54,48,54,49,54,50,54,51,54,52,54,53,54,54,54,55,54,56,54,57,55,48,55,49,55,50,55,51,55,52,55,53,55,54,55,55,55,56,55,57,56,48,56,49,56,50,56,51,56,52,56,53,56,54,56,55,56,56,56,57,57,48,57,49,57,50,57,51,57,52,57,53,57,54,57,55,57,56,57,57])) (t e.b.a.b.b)) 512 10,O e.b.a.b.f (.indexSlc 1 (t e.a.f.f.a) (t e.a.f.f.c)) 455 11,⟨none,.store 1 (t e.b.a.b.f) (t e.b.a.b.a),none,2503,12⟩,O e.b.a.c.a (.indexSlc 1 (t e.a.f.f.f) (t e.b.a.a.b)) 8191 13,⟨none,.store 1 (t e.b.a.c.a) (t e.b.a.b.c),none,16383,14⟩]).seq (reg [m e.b.a.c.b e.f 0,b e.b.a.c.c .sub (t e.b.a.c.b) (k 2) 1,m e.f e.b.a.c.c 2])))) NC.skip)).seq ((reg [m e.b.a.c.f e.f 0,b e.b.a.f.a .gtr (t e.b.a.c.f) (k 0) 1]).seq (NC.cond (t e.b.a.f.a) (reg [m e.b.a.f.b e 0,m e.b.a.f.c e.b.f 1,b e.b.a.f.f .add (.const (.int .u32 (.lit 48))) (t e.b.a.f.c) 2,o e.b.b.a.a (.toInt .u8 (t e.b.a.f.f)) 3,o e.b.b.a.b (.indexSlc 1 (t e.b.a.f.b) (k 0)) 4,q (.store 1 (t e.b.b.a.b) (t e.b.b.a.a)) 5]) NC.skip)))))),167, []⟩
theorem xW:ak Tryd.prog 92=some (.code BF):=by kernel_rfl
noncomputable def xV:NC:=(((reg [m e.b.b.f e.a 0,m e.b.c.a e.c.c 1,b e.b.c.b .geq (t e.b.b.f) (t e.b.c.a) 2]).seq (NC.cond (t e.b.c.b) NC.skip (NC.exit 0))).seq (NC.block 1 ((reg [m e.b.c.c e.c.a 0,b e.b.c.f .sub (t e.b.c.c) (k 1) 1,m e.c.a e.b.c.f 2]).seq ((reg [m e.b.f.a e.c.a 0,m e.b.f.b e.a 1,m e.b.f.c e.c.f 2,b e.b.f.f .and (t e.b.f.b) (t e.b.f.c) 3,o e.c.a.a (.indexStr (.const (.str [48,49,50,51,52,53,54,55,56,57,97,98,99,100,101,102,103,104,105,106,107,108,109,110,111,112,113,114,115,116,117,118,119,120,121,122])) (t e.b.f.f)) 4,o e.c.a.b (.indexArr 1 65 (t e.b.f) (t e.b.f.a)) 5,q (.store 1 (t e.c.a.b) (t e.c.a.a)) 6]).seq (reg [m e.c.a.c e.a 0,m e.c.a.f e.c.b 1,b e.c.b.a .shr (t e.c.a.c) (t e.c.a.f) 2,m e.a e.c.b.a 3])))))
noncomputable def vY:NC:=(((reg [m e.c.f.b e.a 0,m e.c.f.c e.f.a 1,b e.c.f.f .geq (t e.c.f.b) (t e.c.f.c) 2]).seq (NC.cond (t e.c.f.f) NC.skip (NC.exit 2))).seq (NC.block 3 ((reg [m e.f.a.a e.c.a 0,b e.f.a.b .sub (t e.f.a.a) (k 1) 1,m e.c.a e.f.a.b 2]).seq ((reg [m e.f.a.c e.a 0,m e.f.a.f e.f.a 1,b e.f.b.a .quo (t e.f.a.c) (t e.f.a.f) 2,m e.f.b e.f.b.a 3]).seq ((reg [m e.f.b.b e.c.a 0,m e.f.b.c e.a 1,m e.f.b.f e.f.b 2,m e.f.c.a e.f.a 3,b e.f.c.b .mul (t e.f.b.f) (t e.f.c.a) 4,b e.f.c.c .sub (t e.f.b.c) (t e.f.c.b) 5,o e.f.c.f (.indexStr (.const (.str [48,49,50,51,52,53,54,55,56,57,97,98,99,100,101,102,103,104,105,106,107,108,109,110,111,112,113,114,115,116,117,118,119,120,121,122])) (t e.f.c.c)) 6,o e.f.f.a (.indexArr 1 65 (t e.b.f) (t e.f.b.b)) 7,q (.store 1 (t e.f.f.a) (t e.f.c.f)) 8]).seq (reg [m e.f.f.b e.f.b 0,m e.a e.f.f.b 1]))))))
noncomputable def BZ:NFun:=⟨(reg [o e.b.b (.move kn) 0,o e.b.c (.move (.const (.str []))) 1]).seq (((reg [m e.f.c e.b 0,b e.f.f .lss (t e.f.c) (k 2) 1,m e.a.a.a e.f.f 2,G e.a.a.b (.move (t e.b)) e.a.a.a false 3,G e.a.a.c (.bin .num .eql (t e.a.a.b) (k 10)) e.a.a.a false 4,o e.a.a.f (.pick (t e.a.a.a) kt (t e.a.a.c)) 5,m e.a.b.a e.a.a.f 6,G e.a.b.b (.move (t e.b)) e.a.b.a false 7,G e.a.b.c (.bin .num .gtr (t e.a.b.b) (k 36)) e.a.b.a false 8,o e.a.b.f (.pick (t e.a.b.a) kt (t e.a.b.c)) 9]).seq (NC.cond (t e.a.b.f) (reg [o e.a.c.a (.mkIfc 9 (.const (.str [115,116,114,99,111,110,118,58,32,105,108,108,101,103,97,108,32,65,112,112,101,110,100,73,110,116,47,70,111,114,109,97,116,73,110,116,32,98,97,115,101]))) 0,q (.panic (t e.a.c.a)) 1]) NC.skip)).seq ((reg [o e.b.f (.alloc [.int .u8 (.lit 0),.int .u8 (.lit 0),.int .u8 (.lit 0),.int .u8 (.lit 0),.int .u8 (.lit 0),.int .u8 (.lit 0),.int .u8 (.lit 0),.int .u8 (.lit 0),.int .u8 (.lit 0),.int .u8 (.lit 0),.int .u8 (.lit 0),.int .u8 (.lit 0),.int .u8 (.lit 0),.int .u8 (.lit 0),.int .u8 (.lit 0),.int .u8 (.lit 0),.int .u8 (.lit 0),.int .u8 (.lit 0),.int .u8 (.lit 0),.int .u8 (.lit 0),.int .u8 (.lit 0),.int .u8 (.lit 0),.int .u8 (.lit 0),.int .u8 (.lit 0),.int .u8 (.lit 0),.int .u8 (.lit 0),.int .u8 (.lit 0),.int .u8 (.lit 0),.int .u8 (.lit 0),.int .u8 (.lit 0),.int .u8 (.lit 0),.int .u8 (.lit 0),.int .u8 (.lit 0),.int .u8 (.lit 0),.int .u8 (.lit 0),.int .u8 (.lit 0),.int .u8 (.lit 0),.int .u8 (.lit 0),.int .u8 (.lit 0),.int .u8 (.lit 0),.int .u8 (.lit 0),.int .u8 (.lit 0),.int .u8 (.lit 0),.int .u8 (.lit 0),.int .u8 (.lit 0),.int .u8 (.lit 0),.int .u8 (.lit 0),.int .u8 (.lit 0),.int .u8 (.lit 0),.int .u8 (.lit 0),.int .u8 (.lit 0),.int .u8 (.lit 0),.int .u8 (.lit 0),.int .u8 (.lit 0),.int .u8 (.lit 0),.int .u8 (.lit 0),.int .u8 (.lit 0),.int .u8 (.lit 0),.int .u8 (.lit 0),.int .u8 (.lit 0),.int .u8 (.lit 0),.int .u8 (.lit 0),.int .u8 (.lit 0),.int .u8 (.lit 0),.int .u8 (.lit 0)] 185) 0]).seq ((reg [o e.c.a (.move (k 65)) 0]).seq (((reg [m e.a.c.b e.c 0]).seq (NC.cond (t e.a.c.b) (reg [m e.a.c.c e.a 0,o e.a.c.f (.un .neg (t e.a.c.c)) 1,m e.a e.a.c.f 2]) NC.skip)).seq (((reg [m e.a.f.a e.b 0,o e.a.f.b (.call (F 122) [t e.a.f.a]) 1]).seq (NC.cond (t e.a.f.b) ((reg [m e.a.f.c e.b 0,o e.a.f.f (.toInt .u64 (t e.a.f.c)) 1,o e.b.a.a (.call (F 123) [t e.a.f.f]) 2,o e.b.a.b (.toInt .u64 (t e.b.a.a)) 3,m e.c.b e.b.a.b 4]).seq ((reg [m e.b.a.c e.b 0,o e.b.a.f (.toInt .u64 (t e.b.a.c)) 1,m e.c.c e.b.a.f 2]).seq ((reg [m e.b.b.a e.b 0,o e.b.b.b (.toInt .u64 (t e.b.b.a)) 1,b e.b.b.c .sub (t e.b.b.b) (ku 1) 2,m e.c.f e.b.b.c 3]).seq ((NC.block 0 xV.loop).seq ((reg [m e.c.b.b e.c.a 0,b e.c.b.c .sub (t e.c.b.b) (k 1) 1,m e.c.a e.c.b.c 2]).seq (reg [m e.c.b.f e.c.a 0,m e.c.c.a e.a 1,o e.c.c.b (.indexStr (.const (.str [48,49,50,51,52,53,54,55,56,57,97,98,99,100,101,102,103,104,105,106,107,108,109,110,111,112,113,114,115,116,117,118,119,120,121,122])) (t e.c.c.a)) 2,o e.c.c.c (.indexArr 1 65 (t e.b.f) (t e.c.b.f)) 3,q (.store 1 (t e.c.c.c) (t e.c.c.b)) 4])))))) ((reg [m e.c.c.f e.b 0,o e.c.f.a (.toInt .u64 (t e.c.c.f)) 1,m e.f.a e.c.f.a 2]).seq ((NC.block 2 vY.loop).seq ((reg [m e.f.f.c e.c.a 0,b e.f.f.f .sub (t e.f.f.c) (k 1) 1,m e.c.a e.f.f.f 2]).seq (reg [m e.a.a.a.a e.c.a 0,m e.a.a.a.b e.a 1,o e.a.a.a.c (.indexStr (.const (.str [48,49,50,51,52,53,54,55,56,57,97,98,99,100,101,102,103,104,105,106,107,108,109,110,111,112,113,114,115,116,117,118,119,120,121,122])) (t e.a.a.a.b)) 2,o e.a.a.a.f (.indexArr 1 65 (t e.b.f) (t e.a.a.a.a)) 3,q (.store 1 (t e.a.a.a.f) (t e.a.a.a.c)) 4])))))).seq (((reg [m e.a.a.b.a e.c 0]).seq (NC.cond (t e.a.a.b.a) ((reg [m e.a.a.b.b e.c.a 0,b e.a.a.b.c .sub (t e.a.a.b.b) (k 1) 1,m e.c.a e.a.a.b.c 2]).seq (reg [m e.a.a.b.f e.c.a 0,o e.a.a.c.a (.indexArr 1 65 (t e.b.f) (t e.a.a.b.f)) 1,q (.store 1 (t e.a.a.c.a) (kb 45)) 2])) NC.skip)).seq (((reg [m e.a.a.c.b e.f 0]).seq (NC.cond (t e.a.a.c.b) ((reg [m e.a.a.c.c e 0,m e.a.a.c.f e.c.a 1,o e.a.a.f.a (.fail) 2,o e.a.a.f.b (.append 1 1 5 (t e.a.a.c.c) (t e.a.a.f.a)) 3,m e.b.b e.a.a.f.b 4]).seq NC.ret) NC.skip)).seq ((reg [m e.a.a.f.c e.c.a 0,o e.a.a.f.f (.fail) 1,o e.a.b.a.a (.bytesToStr (t e.a.a.f.f)) 2,m e.b.c e.a.b.a.a 3]).seq NC.ret)))))))),102, [.tmp e.b.b,.tmp e.b.c]⟩
theorem xY:ak Tryd.prog 93=some (.code BZ):=by kernel_rfl
noncomputable def xU:NC:=((reg [o e.a.a (.fail) 0,x e.a.b e.a.a 0 1]).seq ((NC.cond (t e.a.b) NC.skip (NC.exit 0)).seq (NC.block 1 (reg [m e.a.c e.b 0,b e.a.f .add (t e.a.c) (k 1) 1,m e.b e.a.f 2]))))
noncomputable def Br:NFun:=⟨(reg [o e.b (.move (k 0)) 0]).seq (((reg [m e.c e 0,o e.f (.fail) 1]).seq (NC.block 0 xU.loop)).seq ((reg [m e.b.a e.b 0,m e.b e.b.a 1]).seq NC.ret)),10, [.tmp e.b]⟩
theorem vv:ak Tryd.prog 94=some (.code Br):=by kernel_rfl
noncomputable def BS:NFun:=⟨(reg [o e.b (.move (.const (.int .i32 (.lit 0)))) 0,o e.c (.move (k 0)) 1]).seq (((reg [m e.f e 0,b e.a.a .neq (t e.f) (.const (.str [])) 1,m e.a.b e.a.a 2,G e.a.c (.move (t e)) e.a.b true 3,G e.a.f (.indexStr (t e.a.c) (k 0)) e.a.b true 4,G e.b.a (.bin .num .lss (t e.a.f) (kb 128)) e.a.b true 5,o e.b.b (.pick (t e.a.b) (t e.b.a) kf) 6]).seq (NC.cond (t e.b.b) ((reg [m e.b.c e 0,o e.b.f (.indexStr (t e.b.c) (k 0)) 1,o e.c.a (.toInt .i32 (t e.b.f)) 2,m e.b e.c.a 3,o e.c (.move (k 1)) 4]).seq NC.ret) (reg [m e.c.c e 0,o e.c.f (.call (F 124) [t e.c.c]) 1,m e.c.b e.c.f 2,x e.f.a e.c.b 0 3,x e.f.b e.c.b 1 4,m e.b e.f.a 5,m e.c e.f.b 6]))).seq NC.ret),19, [.tmp e.b,.tmp e.c]⟩
theorem xm:ak Tryd.prog 95=some (.code BS):=by kernel_rfl
noncomputable def xB:NC:=(((reg [m e.c.b.a e.a.f 0,m e.c.b.b e.b.a 1,b e.c.b.c .lss (t e.c.b.a) (t e.c.b.b) 2]).seq (NC.cond (t e.c.b.c) NC.skip (NC.exit 1))).seq (NC.block 2 (((reg [m e.c.b.f e 0,m e.c.c.a e.a.f 1,o e.c.c.b (.indexStr (t e.c.b.f) (t e.c.c.a)) 2,m e.c.c.c e.a.b 3,b e.c.c.f .neq (t e.c.c.b) (t e.c.c.c) 4]).seq (NC.cond (t e.c.c.f) ((reg [m e.c.f.a e 0,m e.c.f.b e.a.f 1,b e.c.f.c .add (t e.c.f.b) (k 1) 2,m e.c.f.f e.b.a 3,o e.f.a.a (.sliceStr (t e.c.f.a) (some (t e.c.f.c)) (some (t e.c.f.f))) 4,m e.f.a.b e.a.b 5,o e.f.a.c (.call (F 125) [t e.f.a.a,t e.f.a.b]) 6,m e.b.c e.f.a.c 7]).seq (((reg [m e.f.a.f e.b.c 0,b e.f.b.a .lss (t e.f.a.f) (k 0) 1]).seq (NC.cond (t e.f.b.a) ((reg [o e.f (.move (k (-1))) 0]).seq NC.ret) NC.skip)).seq (reg [m e.f.b.b e.a.f 0,m e.f.b.c e.b.c 1,b e.f.b.f .add (t e.f.b.c) (k 1) 2,b e.f.c.a .add (t e.f.b.b) (t e.f.b.f) 3,m e.a.f e.f.c.a 4]))) NC.skip)).seq (((reg [m e.f.c.b e 0,m e.f.c.c e.a.f 1,b e.f.c.f .add (t e.f.c.c) (k 1) 2,o e.f.f.a (.indexStr (t e.f.c.b) (t e.f.c.f)) 3,m e.f.f.b e.a.c 4,b e.f.f.c .eql (t e.f.f.a) (t e.f.f.b) 5,m e.f.f.f e.f.f.c 6,G e.a.a.a.a (.move (t e)) e.f.f.f true 7,G e.a.a.a.b (.move (t e.a.f)) e.f.f.f true 8,G e.a.a.a.c (.move (t e.a.f)) e.f.f.f true 9,G e.a.a.a.f (.move (t e.a.a)) e.f.f.f true 10,G e.a.a.b.a (.bin .num .add (t e.a.a.a.c) (t e.a.a.a.f)) e.f.f.f true 11,G e.a.a.b.b (.sliceStr (t e.a.a.a.a) (some (t e.a.a.a.b)) (some (t e.a.a.b.a))) e.f.f.f true 12,G e.a.a.b.c (.move (t e.a)) e.f.f.f true 13,G e.a.a.b.f (.bin .num .eql (t e.a.a.b.b) (t e.a.a.b.c)) e.f.f.f true 14,o e.a.a.c.a (.pick (t e.f.f.f) (t e.a.a.b.f) kf) 15]).seq (NC.cond (t e.a.a.c.a) ((reg [m e.a.a.c.b e.a.f 0,m e.f e.a.a.c.b 1]).seq NC.ret) NC.skip)).seq ((reg [m e.a.a.c.c e.a.f 0,b e.a.a.c.f .add (t e.a.a.c.c) (k 1) 1,m e.a.f e.a.a.c.f 2]).seq ((reg [m e.a.a.f.a e.b.b 0,b e.a.a.f.b .add (t e.a.a.f.a) (k 1) 1,m e.b.b e.a.a.f.b 2]).seq ((reg [m e.a.a.f.c e.a.a 0,o e.a.a.f.f (.load1 (.const (.ptr e.c 0))) 1,b e.a.b.a.a .leq (t e.a.a.f.c) (t e.a.a.f.f) 2,m e.a.b.a.b e.a.b.a.a 3,G e.a.b.a.c (.move (t e.b.b)) e.a.b.a.b true 4,G e.a.b.a.f (.move (t e.a.f)) e.a.b.a.b true 5,G e.a.b.b.a (.call (F 127) [t e.a.b.a.f]) e.a.b.a.b true 6,G e.a.b.b.b (.bin .num .gtr (t e.a.b.a.c) (t e.a.b.b.a)) e.a.b.a.b true 7,o e.a.b.b.c (.pick (t e.a.b.a.b) (t e.a.b.b.b) kf) 8]).seq (NC.cond (t e.a.b.b.c) ((reg [m e.a.b.b.f e 0,m e.a.b.c.a e.a.f 1,o e.a.b.c.b (.sliceStr (t e.a.b.b.f) (some (t e.a.b.c.a)) none) 2,m e.a.b.c.c e.a 3,o e.a.b.c.f (.call (F 126) [t e.a.b.c.b,t e.a.b.c.c]) 4,m e.b.f e.a.b.c.f 5]).seq (((reg [m e.a.b.f.a e.b.f 0,b e.a.b.f.b .geq (t e.a.b.f.a) (k 0) 1]).seq (NC.cond (t e.a.b.f.b) ((reg [m e.a.b.f.c e.b.f 0,m e.a.b.f.f e.a.f 1,b e.a.c.a.a .add (t e.a.b.f.c) (t e.a.b.f.f) 2,m e.f e.a.c.a.a 3]).seq NC.ret) NC.skip)).seq ((reg [o e.f (.move (k (-1))) 0]).seq NC.ret))) ((reg [m e.a.c.a.b e.a.a 0,o e.a.c.a.c (.load1 (.const (.ptr e.c 0))) 1,b e.a.c.a.f .gtr (t e.a.c.a.b) (t e.a.c.a.c) 2,m e.a.c.b.a e.a.c.a.f 3,G e.a.c.b.b (.move (t e.b.b)) e.a.c.b.a true 4,G e.a.c.b.c (.move (t e.a.f)) e.a.c.b.a true 5,G e.a.c.b.f (.bin .num .shr (t e.a.c.b.c) (ku 4)) e.a.c.b.a true 6,G e.a.c.c.a (.bin .num .add (k 4) (t e.a.c.b.f)) e.a.c.b.a true 7,G e.a.c.c.b (.bin .num .geq (t e.a.c.b.b) (t e.a.c.c.a)) e.a.c.b.a true 8,o e.a.c.c.c (.pick (t e.a.c.b.a) (t e.a.c.c.b) kf) 9,m e.a.c.c.f e.a.c.c.c 10,G e.a.c.f.a (.move (t e.a.f)) e.a.c.c.f true 11,G e.a.c.f.b (.move (t e.b.a)) e.a.c.c.f true 12,G e.a.c.f.c (.bin .num .lss (t e.a.c.f.a) (t e.a.c.f.b)) e.a.c.c.f true 13,o e.a.c.f.f (.pick (t e.a.c.c.f) (t e.a.c.f.c) kf) 14]).seq (NC.cond (t e.a.c.f.f) ((reg [m e.a.f.a.a e 0,m e.a.f.a.b e.a.f 1,o e.a.f.a.c (.sliceStr (t e.a.f.a.a) (some (t e.a.f.a.b)) none) 2,m e.a.f.a.f e.a 3,o e.a.f.b.a (.call (F 128) [t e.a.f.a.c,t e.a.f.a.f]) 4,m e.c.a e.a.f.b.a 5]).seq (((reg [m e.a.f.b.b e.c.a 0,b e.a.f.b.c .lss (t e.a.f.b.b) (k 0) 1]).seq (NC.cond (t e.a.f.b.c) ((reg [o e.f (.move (k (-1))) 0]).seq NC.ret) NC.skip)).seq ((reg [m e.a.f.b.f e.a.f 0,m e.a.f.c.a e.c.a 1,b e.a.f.c.b .add (t e.a.f.b.f) (t e.a.f.c.a) 2,m e.f e.a.f.c.b 3]).seq NC.ret))) NC.skip))))))))))
noncomputable def BI:NFun:=⟨(reg [o e.f (.move (k 0)) 0]).seq ((reg [m e.c.b e.a 0,o e.c.c (.lenStr (t e.c.b)) 1,m e.a.a e.c.c 2]).seq ((NC.block 0 ((reg [m e.f.a e.a.a 0,b e.f.b .eql (t e.f.a) (k 0) 1,m e.f.c e.f.b 2,G e.f.f (.move (t e.a)) e.f.c false 3,G e.a.a.a (.move (t e)) e.f.c false 4,G e.a.a.b (.bin .num .eql (t e.f.f) (t e.a.a.a)) e.f.c false 5,o e.a.a.c (.pick (t e.f.c) kt (t e.a.a.b)) 6,m e.c.f e.a.a.c 7]).seq (NC.cond (t e.c.f) ((reg [o e.f (.move (k 0)) 0]).seq NC.ret) ((reg [m e.a.b.a e.a.a 0,b e.a.b.b .eql (t e.a.b.a) (k 1) 1,m e.a.a.f e.a.b.b 2]).seq (NC.cond (t e.a.a.f) ((reg [m e.a.b.c e 0,m e.a.b.f e.a 1,o e.a.c.a (.indexStr (t e.a.b.f) (k 0)) 2,o e.a.c.b (.call (F 125) [t e.a.b.c,t e.a.c.a]) 3,m e.f e.a.c.b 4]).seq NC.ret) ((reg [m e.a.c.f e.a.a 0,m e.a.f.a e 1,o e.a.f.b (.lenStr (t e.a.f.a)) 2,b e.a.f.c .geq (t e.a.c.f) (t e.a.f.b) 3,m e.a.c.c e.a.f.c 4]).seq (NC.cond (t e.a.c.c) ((reg [o e.f (.move (k (-1))) 0]).seq NC.ret) ((reg [m e.b.a.a e.a.a 0,o e.b.a.b (.load1 (.const (.ptr e.c 0))) 1,b e.b.a.c .leq (t e.b.a.a) (t e.b.a.b) 2,m e.b.a.f e.b.a.c 3,G e.b.b.a (.move (t e)) e.b.a.f true 4,G e.b.b.b (.lenStr (t e.b.b.a)) e.b.a.f true 5,G e.b.b.c (.bin .num .leq (t e.b.b.b) (k 64)) e.b.a.f true 6,o e.b.b.f (.pick (t e.b.a.f) (t e.b.b.c) kf) 7,m e.a.f.f e.b.b.f 8]).seq (NC.cond (t e.a.f.f) ((reg [m e.b.c.a e 0,m e.b.c.b e.a 1,o e.b.c.c (.call (F 126) [t e.b.c.a,t e.b.c.b]) 2,m e.f e.b.c.c 3]).seq NC.ret) NC.skip))))))))).seq ((reg [m e.b.c.f e.a 0,o e.b.f.a (.indexStr (t e.b.c.f) (k 0)) 1,m e.a.b e.b.f.a 2]).seq ((reg [m e.b.f.b e.a 0,o e.b.f.c (.indexStr (t e.b.f.b) (k 1)) 1,m e.a.c e.b.f.c 2]).seq ((reg [o e.a.f (.move (k 0)) 0]).seq ((reg [m e.b.f.f e 0,o e.c.a.a (.lenStr (t e.b.f.f)) 1,m e.c.a.b e.a.a 2,b e.c.a.c .sub (t e.c.a.a) (t e.c.a.b) 3,b e.c.a.f .add (t e.c.a.c) (k 1) 4,m e.b.a e.c.a.f 5]).seq ((reg [o e.b.b (.move (k 0)) 0]).seq ((NC.block 1 xB.loop).seq ((reg [o e.f (.move (k (-1))) 0]).seq NC.ret))))))))),143, [.tmp e.f]⟩
theorem xq:ak Tryd.prog 97=some (.code BI):=by kernel_rfl
noncomputable def wL:NC:=((reg [b e.a.b.a.b .lss (t e.a.b.a.a) (t e.a.a.f.f) 0]).seq ((NC.cond (t e.a.b.a.b) NC.skip (NC.exit 3)).seq ((NC.block 4 ((reg [o e.a.b.a.c (.indexSlc 1 (t e.a.a.f.c) (t e.a.b.a.a)) 0,l e.a.b.a.f e.a.b.a.c 1,m e.c.c e.a.b.a.f 2]).seq ((reg [o e.c.f (.move (kb 0)) 0]).seq ((NC.block 5 ((reg [m e.a.b.b.c e.c.c 0,b e.a.b.b.f .eql (t e.a.b.b.c) (kb 95) 1,m e.a.b.c.a e.a.b.b.f 2,G e.a.b.c.b (.move (t e.a.f)) e.a.b.c.a true 3,o e.a.b.c.c (.pick (t e.a.b.c.a) (t e.a.b.c.b) kf) 4,m e.a.b.b.b e.a.b.c.c 5]).seq (NC.cond (t e.a.b.b.b) ((reg [o e.b.f (.move kt) 0]).seq (NC.exit 4)) ((reg [m e.a.b.f.a e.c.c 0,b e.a.b.f.b .leq (kb 48) (t e.a.b.f.a) 1,m e.a.b.f.c e.a.b.f.b 2,G e.a.b.f.f (.move (t e.c.c)) e.a.b.f.c true 3,G e.a.c.a.a (.bin .num .leq (t e.a.b.f.f) (kb 57)) e.a.b.f.c true 4,o e.a.c.a.b (.pick (t e.a.b.f.c) (t e.a.c.a.a) kf) 5,m e.a.b.c.f e.a.c.a.b 6]).seq (NC.cond (t e.a.b.c.f) (reg [m e.a.c.a.c e.c.c 0,b e.a.c.a.f .sub (t e.a.c.a.c) (kb 48) 1,m e.c.f e.a.c.a.f 2]) ((reg [m e.a.c.b.b e.c.c 0,o e.a.c.b.c (.call (F 129) [t e.a.c.b.b]) 1,b e.a.c.b.f .leq (kb 97) (t e.a.c.b.c) 2,m e.a.c.c.a e.a.c.b.f 3,G e.a.c.c.b (.move (t e.c.c)) e.a.c.c.a true 4,G e.a.c.c.c (.call (F 129) [t e.a.c.c.b]) e.a.c.c.a true 5,G e.a.c.c.f (.bin .num .leq (t e.a.c.c.c) (kb 122)) e.a.c.c.a true 6,o e.a.c.f.a (.pick (t e.a.c.c.a) (t e.a.c.c.f) kf) 7,m e.a.c.b.a e.a.c.f.a 8]).seq (NC.cond (t e.a.c.b.a) (reg [m e.a.c.f.b e.c.c 0,o e.a.c.f.c (.call (F 129) [t e.a.c.f.b]) 1,b e.a.c.f.f .sub (t e.a.c.f.c) (kb 97) 2,b e.a.f.a.a .add (t e.a.c.f.f) (kb 10) 3,m e.c.f e.a.f.a.a 4]) ((reg [o e.a.b.b.a (.mkIfc 132 (k 2)) 0,o e.a.b (.move (ku 0)) 1,m e.a.c e.a.b.b.a 2]).seq NC.ret)))))))).seq (((reg [m e.a.f.a.b e.c.f 0,m e.a.f.a.c e.a 1,o e.a.f.a.f (.toInt .u8 (t e.a.f.a.c)) 2,b e.a.f.b.a .geq (t e.a.f.a.b) (t e.a.f.a.f) 3]).seq (NC.cond (t e.a.f.b.a) ((reg [o e.a.f.b.b (.mkIfc 132 (k 2)) 0,o e.a.b (.move (ku 0)) 1,m e.a.c e.a.f.b.b 2]).seq NC.ret) NC.skip)).seq (((reg [m e.a.f.b.c e.c.a 0,m e.a.f.b.f e.b.b 1,b e.a.f.c.a .geq (t e.a.f.b.c) (t e.a.f.b.f) 2]).seq (NC.cond (t e.a.f.c.a) ((reg [m e.a.f.c.b e.b.c 0,o e.a.f.c.c (.mkIfc 132 (k 1)) 1,m e.a.b e.a.f.c.b 2,m e.a.c e.a.f.c.c 3]).seq NC.ret) NC.skip)).seq ((reg [m e.a.f.c.f e.c.a 0,m e.a.f.f.a e.a 1,o e.a.f.f.b (.toInt .u64 (t e.a.f.f.a)) 2,b e.a.f.f.c .mul (t e.a.f.c.f) (t e.a.f.f.b) 3,m e.c.a e.a.f.f.c 4]).seq ((reg [m e.a.f.f.f e.c.a 0,m e.b.a.a.a e.c.f 1,o e.b.a.a.b (.toInt .u64 (t e.b.a.a.a)) 2,b e.b.a.a.c .add (t e.a.f.f.f) (t e.b.a.a.b) 3,m e.f.a e.b.a.a.c 4]).seq (((reg [m e.b.a.a.f e.f.a 0,m e.b.a.b.a e.c.a 1,b e.b.a.b.b .lss (t e.b.a.a.f) (t e.b.a.b.a) 2,m e.b.a.b.c e.b.a.b.b 3,G e.b.a.b.f (.move (t e.f.a)) e.b.a.b.c false 4,G e.b.a.c.a (.move (t e.b.c)) e.b.a.b.c false 5,G e.b.a.c.b (.bin .num .gtr (t e.b.a.b.f) (t e.b.a.c.a)) e.b.a.b.c false 6,o e.b.a.c.c (.pick (t e.b.a.b.c) kt (t e.b.a.c.b)) 7]).seq (NC.cond (t e.b.a.c.c) ((reg [m e.b.a.c.f e.b.c 0,o e.b.a.f.a (.mkIfc 132 (k 1)) 1,m e.a.b e.b.a.c.f 2,m e.a.c e.b.a.f.a 3]).seq NC.ret) NC.skip)).seq (reg [m e.b.a.f.b e.f.a 0,m e.c.a e.b.a.f.b 1])))))))))).seq (reg [b e.b.a.f.c .add (t e.a.b.a.a) (k 1) 0,m e.a.b.a.a e.b.a.f.c 1]))))
noncomputable def Cj:NFun:=⟨(reg [o e.a.b (.move (ku 0)) 0,o e.a.c (.move (.const .nili)) 1]).seq (((reg [m e.f.b e 0,b e.f.c .eql (t e.f.b) (.const (.str [])) 1]).seq (NC.cond (t e.f.c) ((reg [o e.f.f (.mkIfc 132 (k 2)) 0,o e.a.b (.move (ku 0)) 1,m e.a.c e.f.f 2]).seq NC.ret) NC.skip)).seq ((reg [m e.a.a.a e.a 0,b e.a.a.b .eql (t e.a.a.a) (k 0) 1,m e.a.f e.a.a.b 2]).seq ((reg [m e.a.a.c e 0,m e.b.a e.a.a.c 1]).seq ((NC.block 0 ((reg [m e.a.b.b e.a 0,b e.a.b.c .leq (k 2) (t e.a.b.b) 1,m e.a.b.f e.a.b.c 2,G e.a.c.a (.move (t e.a)) e.a.b.f true 3,G e.a.c.b (.bin .num .leq (t e.a.c.a) (k 36)) e.a.b.f true 4,o e.a.c.c (.pick (t e.a.b.f) (t e.a.c.b) kf) 5,m e.a.b.a e.a.c.c 6]).seq (NC.cond (t e.a.b.a) NC.skip ((reg [m e.a.f.a e.a 0,b e.a.f.b .eql (t e.a.f.a) (k 0) 1,m e.a.c.f e.a.f.b 2]).seq (NC.cond (t e.a.c.f) ((reg [o e.a (.move (k 10)) 0]).seq ((reg [m e.a.f.c e 0,o e.a.f.f (.indexStr (t e.a.f.c) (k 0)) 1,b e.b.a.a .eql (t e.a.f.f) (kb 48) 2]).seq (NC.cond (t e.b.a.a) (NC.block 1 ((reg [m e.b.b.a e 0,o e.b.b.b (.lenStr (t e.b.b.a)) 1,b e.b.b.c .geq (t e.b.b.b) (k 3) 2,m e.b.b.f e.b.b.c 3,G e.b.c.a (.move (t e)) e.b.b.f true 4,G e.b.c.b (.indexStr (t e.b.c.a) (k 1)) e.b.b.f true 5,G e.b.c.c (.call (F 129) [t e.b.c.b]) e.b.b.f true 6,G e.b.c.f (.bin .num .eql (t e.b.c.c) (kb 98)) e.b.b.f true 7,o e.b.f.a (.pick (t e.b.b.f) (t e.b.c.f) kf) 8,m e.b.a.f e.b.f.a 9]).seq (NC.cond (t e.b.a.f) ((reg [o e.a (.move (k 2)) 0]).seq (reg [m e.b.f.b e 0,o e.b.f.c (.sliceStr (t e.b.f.b) (some (k 2)) none) 1,m e e.b.f.c 2])) ((reg [m e.c.a.a e 0,o e.c.a.b (.lenStr (t e.c.a.a)) 1,b e.c.a.c .geq (t e.c.a.b) (k 3) 2,m e.c.a.f e.c.a.c 3,G e.c.b.a (.move (t e)) e.c.a.f true 4,G e.c.b.b (.indexStr (t e.c.b.a) (k 1)) e.c.a.f true 5,G e.c.b.c (.call (F 129) [t e.c.b.b]) e.c.a.f true 6,G e.c.b.f (.bin .num .eql (t e.c.b.c) (kb 111)) e.c.a.f true 7,o e.c.c.a (.pick (t e.c.a.f) (t e.c.b.f) kf) 8,m e.b.f.f e.c.c.a 9]).seq (NC.cond (t e.b.f.f) ((reg [o e.a (.move (k 8)) 0]).seq (reg [m e.c.c.b e 0,o e.c.c.c (.sliceStr (t e.c.c.b) (some (k 2)) none) 1,m e e.c.c.c 2])) ((reg [m e.c.f.a e 0,o e.c.f.b (.lenStr (t e.c.f.a)) 1,b e.c.f.c .geq (t e.c.f.b) (k 3) 2,m e.c.f.f e.c.f.c 3,G e.f.a.a (.move (t e)) e.c.f.f true 4,G e.f.a.b (.indexStr (t e.f.a.a) (k 1)) e.c.f.f true 5,G e.f.a.c (.call (F 129) [t e.f.a.b]) e.c.f.f true 6,G e.f.a.f (.bin .num .eql (t e.f.a.c) (kb 120)) e.c.f.f true 7,o e.f.b.a (.pick (t e.c.f.f) (t e.f.a.f) kf) 8,m e.c.c.f e.f.b.a 9]).seq (NC.cond (t e.c.c.f) ((reg [o e.a (.move (k 16)) 0]).seq (reg [m e.f.b.b e 0,o e.f.b.c (.sliceStr (t e.f.b.b) (some (k 2)) none) 1,m e e.f.b.c 2])) ((reg [o e.a (.move (k 8)) 0]).seq (reg [m e.b.a.b e 0,o e.b.a.c (.sliceStr (t e.b.a.b) (some (k 1)) none) 1,m e e.b.a.c 2]))))))))) NC.skip))) ((reg [o e.a.a.f (.mkIfc 132 (k 3)) 0,o e.a.b (.move (ku 0)) 1,m e.a.c e.a.a.f 2]).seq NC.ret)))))).seq (((reg [m e.f.b.f e.b 0,b e.f.c.a .eql (t e.f.b.f) (k 0) 1]).seq (NC.cond (t e.f.c.a) (reg [o e.b (.move (k 64)) 0]) ((reg [m e.f.c.b e.b 0,b e.f.c.c .lss (t e.f.c.b) (k 0) 1,m e.f.c.f e.f.c.c 2,G e.f.f.a (.move (t e.b)) e.f.c.f false 3,G e.f.f.b (.bin .num .gtr (t e.f.f.a) (k 64)) e.f.c.f false 4,o e.f.f.c (.pick (t e.f.c.f) kt (t e.f.f.b)) 5]).seq (NC.cond (t e.f.f.c) ((reg [o e.f.f.f (.mkIfc 132 (k 4)) 0,o e.a.b (.move (ku 0)) 1,m e.a.c e.f.f.f 2]).seq NC.ret) NC.skip)))).seq ((reg [o e.b.b (.move (ku 0)) 0]).seq (((reg [m e.a.a.a.a e.a 0]).seq (NC.block 2 ((reg [b e.a.a.b.c .eql (t e.a.a.a.a) (k 10) 0,m e.a.a.b.b e.a.a.b.c 1]).seq (NC.cond (t e.a.a.b.b) (reg [o e.b.b (.move (ku 1844674407370955162)) 0]) ((reg [b e.a.a.c.a .eql (t e.a.a.a.a) (k 16) 0,m e.a.a.b.f e.a.a.c.a 1]).seq (NC.cond (t e.a.a.b.f) (reg [o e.b.b (.move (ku 1152921504606846976)) 0]) (reg [m e.a.a.a.b e.a 0,o e.a.a.a.c (.toInt .u64 (t e.a.a.a.b)) 1,b e.a.a.a.f .quo (ku 18446744073709551615) (t e.a.a.a.c) 2,b e.a.a.b.a .add (t e.a.a.a.f) (ku 1) 3,m e.b.b e.a.a.b.a 4]))))))).seq ((reg [m e.a.a.c.b e.b 0,o e.a.a.c.c (.toInt .u64 (t e.a.a.c.b)) 1,b e.a.a.c.f .shl (ku 1) (t e.a.a.c.c) 2,b e.a.a.f.a .sub (t e.a.a.c.f) (ku 1) 3,m e.b.c e.a.a.f.a 4]).seq ((reg [o e.b.f (.move kf) 0]).seq ((reg [o e.c.a (.move (ku 0)) 0]).seq (((reg [m e.a.a.f.b e 0,o e.a.a.f.c (.strToBytes 5 (t e.a.a.f.b)) 1,L e.a.a.f.f e.a.a.f.c 2,o e.a.b.a.a (.move (k 0)) 3]).seq (NC.block 3 wL.loop)).seq (((reg [m e.b.a.f.f e.b.f 0,m e.b.b.a.a e.b.a.f.f 1,G e.b.b.a.b (.move (t e.b.a)) e.b.b.a.a true 2,G e.b.b.a.c (.call (F 130) [t e.b.b.a.b]) e.b.b.a.a true 3,G e.b.b.a.f (.un .not (t e.b.b.a.c)) e.b.b.a.a true 4,o e.b.b.b.a (.pick (t e.b.b.a.a) (t e.b.b.a.f) kf) 5]).seq (NC.cond (t e.b.b.b.a) ((reg [o e.b.b.b.b (.mkIfc 132 (k 2)) 0,o e.a.b (.move (ku 0)) 1,m e.a.c e.b.b.b.b 2]).seq NC.ret) NC.skip)).seq ((reg [m e.b.b.b.c e.c.a 0,m e.a.b e.b.b.b.c 1,o e.a.c (.move (.const .nili)) 2]).seq NC.ret))))))))))))),172, [.tmp e.a.b,.tmp e.a.c]⟩
theorem vF:ak Tryd.prog 98=some (.code Cj):=by kernel_rfl
noncomputable def CA:NFun:=⟨(reg [o e.b (.move (.const (.str []))) 0]).seq (((reg [m e.f e 0,o e.a.a (.lenStr (t e.f)) 1,b e.a.b .eql (t e.a.a) (k 0) 2]).seq (NC.cond (t e.a.b) ((reg [o e.b (.move (.const (.str []))) 0]).seq NC.ret) NC.skip)).seq ((reg [m e.a.c e 0,o e.a.f (.lenStr (t e.a.c)) 1,o e.b.a (.mkSlice [.int .u8 (.lit 0)] 1 1 5 (t e.a.f) (t e.a.f)) 2,m e.c e.b.a 3]).seq ((reg [m e.b.b e.c 0,m e.b.c e 1,o e.b.f (.fail) 2]).seq ((reg [m e.c.a e.c 0,o e.c.b (.indexSlc 1 (t e.c.a) (k 0)) 1,m e.c.c e.c 2,L e.c.f e.c.c 3,o e.f.a (.fail) 4,m e.b e.f.a 5]).seq NC.ret)))),18, [.tmp e.b]⟩
theorem wZ:ak Tryd.prog 99=some (.code CA):=by kernel_rfl
noncomputable def yo:NFun:=⟨(reg [o e.b (.move (.const .nili)) 0]).seq ((reg [m e.c e 0,o e.f (.build [.str []] [(0,1,t e.c)]) 1,o e.a.a (.box (t e.f) 190) 2,o e.a.b (.mkIfc 188 (t e.a.a)) 3,m e.b e.a.b 4]).seq NC.ret),7, [.tmp e.b]⟩
theorem ul:ak Tryd.prog 100=some (.code yo):=by kernel_rfl
noncomputable def yk:NFun:=⟨(reg [o e.b (.move (k 0)) 0]).seq ((reg [m e.c e 0,b e.f .mul (t e.c) (k 78913) 1,b e.a.a .shr (t e.f) (ku 18) 2,m e.b e.a.a 3]).seq NC.ret),6, [.tmp e.b]⟩
theorem tT:ak Tryd.prog 119=some (.code yk):=by kernel_rfl
noncomputable def yj:NFun:=⟨(reg [o e.b (.move (k 0)) 0]).seq (((reg [m e.c e 0,b e.f .geq (t e.c) (ku 4294967296) 1]).seq (NC.cond (t e.f) ((reg [m e.a.a e 0,b e.a.b .shr (t e.a.a) (ku 32) 1,m e e.a.b 2]).seq (reg [o e.b (.move (k 32)) 0])) NC.skip)).seq (((reg [m e.a.c e 0,b e.a.f .geq (t e.a.c) (ku 65536) 1]).seq (NC.cond (t e.a.f) ((reg [m e.b.a e 0,b e.b.b .shr (t e.b.a) (ku 16) 1,m e e.b.b 2]).seq (reg [m e.b.c e.b 0,b e.b.f .add (t e.b.c) (k 16) 1,m e.b e.b.f 2])) NC.skip)).seq (((reg [m e.c.a e 0,b e.c.b .geq (t e.c.a) (ku 256) 1]).seq (NC.cond (t e.c.b) ((reg [m e.c.c e 0,b e.c.f .shr (t e.c.c) (ku 8) 1,m e e.c.f 2]).seq (reg [m e.f.a e.b 0,b e.f.b .add (t e.f.a) (k 8) 1,m e.b e.f.b 2])) NC.skip)).seq ((reg [m e.f.c e.b 0,m e.f.f e 1,o e.a.a.a (.toInt .u8 (t e.f.f)) 2,o e.a.a.b (.indexStr (.const (.str [0,1,2,2,3,3,3,3,4,4,4,4,4,4,4,4,5,5,5,5,5,5,5,5,5,5,5,5,5,5,5,5,6,6,6,6,6,6,6,6,6,6,6,6,6,6,6,6,6,6,6,6,6,6,6,6,6,6,6,6,6,6,6,6,7,7,7,7,7,7,7,7,7,7,7,7,7,7,7,7,7,7,7,7,7,7,7,7,7,7,7,7,7,7,7,7,7,7,7,7,7,7,7,7,7,7,7,7,7,7,7,7,7,7,7,7,7,7,7,7,7,7,7,7,7,7,7,7,8,8,8,8,8,8,8,8,8,8,8,8,8,8,8,8,8,8,8,8,8,8,8,8,8,8,8,8,8,8,8,8,8,8,8,8,8,8,8,8,8,8,8,8,8,8,8,8,8,8,8,8,8,8,8,8,8,8,8,8,8,8,8,8,8,8,8,8,8,8,8,8,8,8,8,8,8,8,8,8,8,8,8,8,8,8,8,8,8,8,8,8,8,8,8,8,8,8,8,8,8,8,8,8,8,8,8,8,8,8,8,8,8,8,8,8,8,8,8,8,8,8,8,8,8,8,8,8])) (t e.a.a.a)) 3,o e.a.a.c (.toInt .i64 (t e.a.a.b)) 4,b e.a.a.f .add (t e.f.c) (t e.a.a.c) 5,m e.b e.a.a.f 6]).seq NC.ret)))),25, [.tmp e.b]⟩
theorem tF:ak Tryd.prog 120=some (.code yj):=by kernel_rfl
noncomputable def yq:NFun:=⟨(reg [o e.b (.move (k 0)) 0]).seq (((reg [m e.c e 0]).seq (NC.cond (t e.c) ((reg [o e.b (.move (k 1)) 0]).seq NC.ret) NC.skip)).seq ((reg [o e.b (.move (k 0)) 0]).seq NC.ret)),4, [.tmp e.b]⟩
theorem uQ:ak Tryd.prog 121=some (.code yq):=by kernel_rfl
noncomputable def yi:NFun:=⟨(reg [o e.b (.move kf) 0]).seq ((reg [m e.c e 0,m e.f e 1,b e.a.a .sub (t e.f) (k 1) 2,b e.a.b .and (t e.c) (t e.a.a) 3,b e.a.c .eql (t e.a.b) (k 0) 4,m e.b e.a.c 5]).seq NC.ret),8, [.tmp e.b]⟩
theorem sR:ak Tryd.prog 122=some (.code yi):=by kernel_rfl
noncomputable def yf:NFun:=⟨(reg [o e.b (.move (k 0)) 0]).seq ((NC.cond kf ((reg [m e.c e 0,o e.f (.toInt .u32 (t e.c)) 1,o e.a.a (.call (F 136) [t e.f]) 2,m e.b e.a.a 3]).seq NC.ret) NC.skip).seq ((reg [m e.a.b e 0,o e.a.c (.call (F 137) [t e.a.b]) 1,m e.b e.a.c 2]).seq NC.ret)),8, [.tmp e.b]⟩
theorem s8:ak Tryd.prog 123=some (.code yf):=by kernel_rfl
noncomputable def yu:NFun:=⟨(reg [o e.b (.move (.const (.int .i32 (.lit 0)))) 0,o e.c (.move (k 0)) 1]).seq ((reg [m e.c.a e 0,o e.c.b (.lenStr (t e.c.a)) 1,m e.f e.c.b 2]).seq (((reg [m e.c.c e.f 0,b e.c.f .lss (t e.c.c) (k 1) 1]).seq (NC.cond (t e.c.f) ((reg [o e.b (.move (.const (.int .i32 (.lit 65533)))) 0,o e.c (.move (k 0)) 1]).seq NC.ret) NC.skip)).seq ((reg [m e.f.a e 0,o e.f.b (.indexStr (t e.f.a) (k 0)) 1,m e.a.a e.f.b 2]).seq ((reg [m e.f.c e.a.a 0,o e.f.f (.indexArr 1 256 (.const (.ptr e.f 0)) (t e.f.c)) 1,l e.a.a.a e.f.f 2,m e.a.b e.a.a.a 3]).seq (((reg [m e.a.a.b e.a.b 0,b e.a.a.c .geq (t e.a.a.b) (kb 240) 1]).seq (NC.cond (t e.a.a.c) ((reg [m e.a.a.f e.a.b 0,o e.a.b.a (.toInt .i32 (t e.a.a.f)) 1,b e.a.b.b .shl (t e.a.b.a) (ku 31) 2,b e.a.b.c .shr (t e.a.b.b) (ku 31) 3,m e.a.c e.a.b.c 4]).seq ((reg [m e.a.b.f e 0,o e.a.c.a (.indexStr (t e.a.b.f) (k 0)) 1,o e.a.c.b (.toInt .i32 (t e.a.c.a)) 2,m e.a.c.c e.a.c 3,b e.a.c.f .andNot (t e.a.c.b) (t e.a.c.c) 4,m e.a.f.a e.a.c 5,b e.a.f.b .and (.const (.int .i32 (.lit 65533))) (t e.a.f.a) 6,b e.a.f.c .or (t e.a.c.f) (t e.a.f.b) 7,m e.b e.a.f.c 8,o e.c (.move (k 1)) 9]).seq NC.ret)) NC.skip)).seq ((reg [m e.a.f.f e.a.b 0,b e.b.a.a .and (t e.a.f.f) (kb 7) 1,o e.b.a.b (.toInt .i64 (t e.b.a.a)) 2,m e.a.f e.b.a.b 3]).seq ((reg [m e.b.a.c e.a.b 0,b e.b.a.f .shr (t e.b.a.c) (ku 4) 1,o e.b.b.a (.indexArr 2 16 (.const (.ptr e.a.a 0)) (t e.b.a.f)) 2,o e.b.b.b (.loadN 2 (t e.b.b.a)) 3,o e.b.a (.alloc [.int .u8 (.lit 0),.int .u8 (.lit 0)] 200) 4,q (.store 2 (t e.b.a) (t e.b.b.b)) 5]).seq (((reg [m e.b.b.c e.f 0,m e.b.b.f e.a.f 1,b e.b.c.a .lss (t e.b.b.c) (t e.b.b.f) 2]).seq (NC.cond (t e.b.c.a) ((reg [o e.b (.move (.const (.int .i32 (.lit 65533)))) 0,o e.c (.move (k 1)) 1]).seq NC.ret) NC.skip)).seq ((reg [m e.b.c.b e 0,o e.b.c.c (.indexStr (t e.b.c.b) (k 1)) 1,m e.b.b e.b.c.c 2]).seq (((reg [m e.b.c.f e.b.b 0,f 0 e.b.f.a e.b.a 1,l e.b.f.b e.b.f.a 2,b e.b.f.c .lss (t e.b.c.f) (t e.b.f.b) 3,m e.b.f.f e.b.f.c 4,G e.c.a.a (.fieldAddr 1 (t e.b.a)) e.b.f.f false 5,G e.c.a.b (.load1 (t e.c.a.a)) e.b.f.f false 6,G e.c.a.c (.move (t e.b.b)) e.b.f.f false 7,G e.c.a.f (.bin .num .lss (t e.c.a.b) (t e.c.a.c)) e.b.f.f false 8,o e.c.b.a (.pick (t e.b.f.f) kt (t e.c.a.f)) 9]).seq (NC.cond (t e.c.b.a) ((reg [o e.b (.move (.const (.int .i32 (.lit 65533)))) 0,o e.c (.move (k 1)) 1]).seq NC.ret) NC.skip)).seq (((reg [m e.c.b.b e.a.f 0,b e.c.b.c .leq (t e.c.b.b) (k 2) 1]).seq (NC.cond (t e.c.b.c) ((reg [m e.c.b.f e.a.a 0,b e.c.c.a .and (t e.c.b.f) (kb 31) 1,o e.c.c.b (.toInt .i32 (t e.c.c.a)) 2,b e.c.c.c .shl (t e.c.c.b) (ku 6) 3,m e.c.c.f e.b.b 4,b e.c.f.a .and (t e.c.c.f) (kb 63) 5,o e.c.f.b (.toInt .i32 (t e.c.f.a)) 6,b e.c.f.c .or (t e.c.c.c) (t e.c.f.b) 7,m e.b e.c.f.c 8,o e.c (.move (k 2)) 9]).seq NC.ret) NC.skip)).seq ((reg [m e.c.f.f e 0,o e.f.a.a (.indexStr (t e.c.f.f) (k 2)) 1,m e.b.c e.f.a.a 2]).seq (((reg [m e.f.a.b e.b.c 0,b e.f.a.c .lss (t e.f.a.b) (kb 128) 1,m e.f.a.f e.f.a.c 2,G e.f.b.a (.move (t e.b.c)) e.f.a.f false 3,G e.f.b.b (.bin .num .lss (kb 191) (t e.f.b.a)) e.f.a.f false 4,o e.f.b.c (.pick (t e.f.a.f) kt (t e.f.b.b)) 5]).seq (NC.cond (t e.f.b.c) ((reg [o e.b (.move (.const (.int .i32 (.lit 65533)))) 0,o e.c (.move (k 1)) 1]).seq NC.ret) NC.skip)).seq (((reg [m e.f.b.f e.a.f 0,b e.f.c.a .leq (t e.f.b.f) (k 3) 1]).seq (NC.cond (t e.f.c.a) ((reg [m e.f.c.b e.a.a 0,b e.f.c.c .and (t e.f.c.b) (kb 15) 1,o e.f.c.f (.toInt .i32 (t e.f.c.c)) 2,b e.f.f.a .shl (t e.f.c.f) (ku 12) 3,m e.f.f.b e.b.b 4,b e.f.f.c .and (t e.f.f.b) (kb 63) 5,o e.f.f.f (.toInt .i32 (t e.f.f.c)) 6,b e.a.a.a.a .shl (t e.f.f.f) (ku 6) 7,b e.a.a.a.b .or (t e.f.f.a) (t e.a.a.a.a) 8,m e.a.a.a.c e.b.c 9,b e.a.a.a.f .and (t e.a.a.a.c) (kb 63) 10,o e.a.a.b.a (.toInt .i32 (t e.a.a.a.f)) 11,b e.a.a.b.b .or (t e.a.a.a.b) (t e.a.a.b.a) 12,m e.b e.a.a.b.b 13,o e.c (.move (k 3)) 14]).seq NC.ret) NC.skip)).seq ((reg [m e.a.a.b.c e 0,o e.a.a.b.f (.indexStr (t e.a.a.b.c) (k 3)) 1,m e.b.f e.a.a.b.f 2]).seq (((reg [m e.a.a.c.a e.b.f 0,b e.a.a.c.b .lss (t e.a.a.c.a) (kb 128) 1,m e.a.a.c.c e.a.a.c.b 2,G e.a.a.c.f (.move (t e.b.f)) e.a.a.c.c false 3,G e.a.a.f.a (.bin .num .lss (kb 191) (t e.a.a.c.f)) e.a.a.c.c false 4,o e.a.a.f.b (.pick (t e.a.a.c.c) kt (t e.a.a.f.a)) 5]).seq (NC.cond (t e.a.a.f.b) ((reg [o e.b (.move (.const (.int .i32 (.lit 65533)))) 0,o e.c (.move (k 1)) 1]).seq NC.ret) NC.skip)).seq ((reg [m e.a.a.f.c e.a.a 0,b e.a.a.f.f .and (t e.a.a.f.c) (kb 7) 1,o e.a.b.a.a (.toInt .i32 (t e.a.a.f.f)) 2,b e.a.b.a.b .shl (t e.a.b.a.a) (ku 18) 3,m e.a.b.a.c e.b.b 4,b e.a.b.a.f .and (t e.a.b.a.c) (kb 63) 5,o e.a.b.b.a (.toInt .i32 (t e.a.b.a.f)) 6,b e.a.b.b.b .shl (t e.a.b.b.a) (ku 12) 7,b e.a.b.b.c .or (t e.a.b.a.b) (t e.a.b.b.b) 8,m e.a.b.b.f e.b.c 9,b e.a.b.c.a .and (t e.a.b.b.f) (kb 63) 10,o e.a.b.c.b (.toInt .i32 (t e.a.b.c.a)) 11,b e.a.b.c.c .shl (t e.a.b.c.b) (ku 6) 12,b e.a.b.c.f .or (t e.a.b.b.c) (t e.a.b.c.c) 13,m e.a.b.f.a e.b.f 14,b e.a.b.f.b .and (t e.a.b.f.a) (kb 63) 15,o e.a.b.f.c (.toInt .i32 (t e.a.b.f.b)) 16,b e.a.b.f.f .or (t e.a.b.c.f) (t e.a.b.f.c) 17,m e.b e.a.b.f.f 18,o e.c (.move (k 4)) 19]).seq NC.ret))))))))))))))))),117, [.tmp e.b,.tmp e.c]⟩
theorem sE:ak Tryd.prog 124=some (.code yu):=by kernel_rfl
noncomputable def yF:NFun:=⟨(reg [o e.f (.move (k 0)) 0]).seq ((reg [m e.a.a e 0,m e.a.b e.a 1,o e.a.c (.call (F 138) [t e.a.a,t e.a.b]) 2,m e.f e.a.c 3]).seq NC.ret),8, [.tmp e.f]⟩
theorem tQ:ak Tryd.prog 125=some (.code yF):=by kernel_rfl
noncomputable def yw:NFun:=⟨(reg [o e.b (.move (k 0)) 0]).seq ((reg [m e.c e 0,b e.f .add (t e.c) (k 16) 1,b e.a.a .quo (t e.f) (k 8) 2,m e.b e.a.a 3]).seq NC.ret),6, [.tmp e.b]⟩
theorem uO:ak Tryd.prog 127=some (.code yw):=by kernel_rfl
noncomputable def uf:NC:=(((reg [m e.f.b e.b.a 0,m e.f.c e.a.c 1,b e.f.f .lss (t e.f.b) (t e.f.c) 2]).seq (NC.cond (t e.f.f) NC.skip (NC.exit 0))).seq ((NC.block 1 (reg [m e.a.a.c e.a.f 0,b e.a.a.f .mul (t e.a.a.c) (.const (.int .u32 (.lit 16777619))) 1,m e.a.b.a e 2,m e.a.b.b e.b.a 3,o e.a.b.c (.indexStr (t e.a.b.a) (t e.a.b.b)) 4,o e.a.b.f (.toInt .u32 (t e.a.b.c)) 5,b e.a.c.a .add (t e.a.a.f) (t e.a.b.f) 6,m e.a.f e.a.c.a 7])).seq (reg [m e.a.a.a e.b.a 0,b e.a.a.b .add (t e.a.a.a) (k 1) 1,m e.b.a e.a.a.b 2])))
noncomputable def ut:NC:=(((reg [m e.b.b.a e.b.b 0,m e.b.b.b e 1,o e.b.b.c (.lenStr (t e.b.b.b)) 2,b e.b.b.f .lss (t e.b.b.a) (t e.b.b.c) 3]).seq (NC.cond (t e.b.b.f) NC.skip (NC.exit 2))).seq (NC.block 3 ((reg [m e.b.c.a e.a.f 0,b e.b.c.b .mul (t e.b.c.a) (.const (.int .u32 (.lit 16777619))) 1,m e.a.f e.b.c.b 2]).seq ((reg [m e.b.c.c e.a.f 0,m e.b.c.f e 1,m e.b.f.a e.b.b 2,o e.b.f.b (.indexStr (t e.b.c.f) (t e.b.f.a)) 3,o e.b.f.c (.toInt .u32 (t e.b.f.b)) 4,b e.b.f.f .add (t e.b.c.c) (t e.b.f.c) 5,m e.a.f e.b.f.f 6]).seq ((reg [m e.c.a.a e.a.f 0,m e.c.a.b e.a.b 1,m e.c.a.c e 2,m e.c.a.f e.b.b 3,m e.c.b.a e.a.c 4,b e.c.b.b .sub (t e.c.a.f) (t e.c.b.a) 5,o e.c.b.c (.indexStr (t e.c.a.c) (t e.c.b.b)) 6,o e.c.b.f (.toInt .u32 (t e.c.b.c)) 7,b e.c.c.a .mul (t e.c.a.b) (t e.c.b.f) 8,b e.c.c.b .sub (t e.c.a.a) (t e.c.c.a) 9,m e.a.f e.c.c.b 10]).seq ((reg [m e.c.c.c e.b.b 0,b e.c.c.f .add (t e.c.c.c) (k 1) 1,m e.b.b e.c.c.f 2]).seq ((reg [m e.c.f.a e.a.f 0,m e.c.f.b e.a.a 1,b e.c.f.c .eql (t e.c.f.a) (t e.c.f.b) 2,m e.c.f.f e.c.f.c 3,G e.f.a.a (.move (t e)) e.c.f.f true 4,G e.f.a.b (.move (t e.b.b)) e.c.f.f true 5,G e.f.a.c (.move (t e.a.c)) e.c.f.f true 6,G e.f.a.f (.bin .num .sub (t e.f.a.b) (t e.f.a.c)) e.c.f.f true 7,G e.f.b.a (.move (t e.b.b)) e.c.f.f true 8,G e.f.b.b (.sliceStr (t e.f.a.a) (some (t e.f.a.f)) (some (t e.f.b.a))) e.c.f.f true 9,G e.f.b.c (.move (t e.a)) e.c.f.f true 10,G e.f.b.f (.bin .num .eql (t e.f.b.b) (t e.f.b.c)) e.c.f.f true 11,o e.f.c.a (.pick (t e.c.f.f) (t e.f.b.f) kf) 12]).seq (NC.cond (t e.f.c.a) ((reg [m e.f.c.b e.b.b 0,m e.f.c.c e.a.c 1,b e.f.c.f .sub (t e.f.c.b) (t e.f.c.c) 2,m e.f e.f.c.f 3]).seq NC.ret) NC.skip))))))))
noncomputable def yn:NFun:=⟨(reg [o e.f (.move (k 0)) 0]).seq ((reg [m e.b.f e.a 0,o e.c.a (.call (F 139) [t e.b.f]) 1,m e.b.c e.c.a 2,x e.c.b e.b.c 0 3,x e.c.c e.b.c 1 4,m e.a.a e.c.b 5,m e.a.b e.c.c 6]).seq ((reg [m e.c.f e.a 0,o e.f.a (.lenStr (t e.c.f)) 1,m e.a.c e.f.a 2]).seq ((reg [o e.a.f (.move (.const (.int .u32 (.lit 0)))) 0]).seq (((reg [o e.b.a (.move (k 0)) 0]).seq (NC.block 0 uf.loop)).seq (((reg [m e.a.c.b e.a.f 0,m e.a.c.c e.a.a 1,b e.a.c.f .eql (t e.a.c.b) (t e.a.c.c) 2,m e.a.f.a e.a.c.f 3,G e.a.f.b (.move (t e)) e.a.f.a true 4,G e.a.f.c (.move (t e.a.c)) e.a.f.a true 5,G e.a.f.f (.sliceStr (t e.a.f.b) none (some (t e.a.f.c))) e.a.f.a true 6,G e.b.a.a (.move (t e.a)) e.a.f.a true 7,G e.b.a.b (.bin .num .eql (t e.a.f.f) (t e.b.a.a)) e.a.f.a true 8,o e.b.a.c (.pick (t e.a.f.a) (t e.b.a.b) kf) 9]).seq (NC.cond (t e.b.a.c) ((reg [o e.f (.move (k 0)) 0]).seq NC.ret) NC.skip)).seq (((reg [m e.b.a.f e.a.c 0,m e.b.b e.b.a.f 1]).seq (NC.block 2 ut.loop)).seq ((reg [o e.f (.move (k (-1))) 0]).seq NC.ret))))))),81, [.tmp e.f]⟩
theorem sM:ak Tryd.prog 128=some (.code yn):=by kernel_rfl
noncomputable def ye:NFun:=⟨(reg [o e.b (.move (kb 0)) 0]).seq ((reg [m e.c e 0,b e.f .or (t e.c) (kb 32) 1,m e.b e.f 2]).seq NC.ret),5, [.tmp e.b]⟩
theorem uC:ak Tryd.prog 129=some (.code ye):=by kernel_rfl
noncomputable def uJ:NC:=(((reg [m e.b.f.c e.f 0,m e.b.f.f e 1,o e.c.a.a (.lenStr (t e.b.f.f)) 2,b e.c.a.b .lss (t e.b.f.c) (t e.c.a.a) 3]).seq (NC.cond (t e.c.a.b) NC.skip (NC.exit 0))).seq ((NC.block 1 (((reg [m e.c.b.a e 0,m e.c.b.b e.f 1,o e.c.b.c (.indexStr (t e.c.b.a) (t e.c.b.b)) 2,b e.c.b.f .leq (kb 48) (t e.c.b.c) 3,m e.c.c.a e.c.b.f 4,G e.c.c.b (.move (t e)) e.c.c.a true 5,G e.c.c.c (.move (t e.f)) e.c.c.a true 6,G e.c.c.f (.indexStr (t e.c.c.b) (t e.c.c.c)) e.c.c.a true 7,G e.c.f.a (.bin .num .leq (t e.c.c.f) (kb 57)) e.c.c.a true 8,o e.c.f.b (.pick (t e.c.c.a) (t e.c.f.a) kf) 9,m e.c.f.c e.c.f.b 10,G e.c.f.f (.move (t e.a.a)) e.c.f.c false 11,G e.f.a.a (.move (t e.c.f.f)) e.c.f.c false 12,G e.f.a.b (.move (t e)) e.f.a.a true 13,G e.f.a.c (.move (t e.f)) e.f.a.a true 14,G e.f.a.f (.indexStr (t e.f.a.b) (t e.f.a.c)) e.f.a.a true 15,G e.f.b.a (.call (F 129) [t e.f.a.f]) e.f.a.a true 16,G e.f.b.b (.bin .num .leq (kb 97) (t e.f.b.a)) e.f.a.a true 17,G e.f.b.c (.pick (t e.f.a.a) (t e.f.b.b) kf) e.c.f.c false 18,G e.f.b.f (.move (t e.f.b.c)) e.c.f.c false 19,G e.f.c.a (.move (t e)) e.f.b.f true 20,G e.f.c.b (.move (t e.f)) e.f.b.f true 21,G e.f.c.c (.indexStr (t e.f.c.a) (t e.f.c.b)) e.f.b.f true 22,G e.f.c.f (.call (F 129) [t e.f.c.c]) e.f.b.f true 23,G e.f.f.a (.bin .num .leq (t e.f.c.f) (kb 102)) e.f.b.f true 24,G e.f.f.b (.pick (t e.f.b.f) (t e.f.f.a) kf) e.c.f.c false 25,o e.f.f.c (.pick (t e.c.f.c) kt (t e.f.f.b)) 26]).seq (NC.cond (t e.f.f.c) ((reg [o e.c (.move (.const (.int .i32 (.lit 48)))) 0]).seq (NC.exit 1)) NC.skip)).seq (((reg [m e.f.f.f e 0,m e.a.a.a.a e.f 1,o e.a.a.a.b (.indexStr (t e.f.f.f) (t e.a.a.a.a)) 2,b e.a.a.a.c .eql (t e.a.a.a.b) (kb 95) 3]).seq (NC.cond (t e.a.a.a.c) (((reg [m e.a.a.a.f e.c 0,b e.a.a.b.a .neq (t e.a.a.a.f) (.const (.int .i32 (.lit 48))) 1]).seq (NC.cond (t e.a.a.b.a) ((reg [o e.b (.move kf) 0]).seq NC.ret) NC.skip)).seq ((reg [o e.c (.move (.const (.int .i32 (.lit 95)))) 0]).seq (NC.exit 1))) NC.skip)).seq (((reg [m e.a.a.b.b e.c 0,b e.a.a.b.c .eql (t e.a.a.b.b) (.const (.int .i32 (.lit 95))) 1]).seq (NC.cond (t e.a.a.b.c) ((reg [o e.b (.move kf) 0]).seq NC.ret) NC.skip)).seq (reg [o e.c (.move (.const (.int .i32 (.lit 33)))) 0]))))).seq (reg [m e.c.a.c e.f 0,b e.c.a.f .add (t e.c.a.c) (k 1) 1,m e.f e.c.a.f 2])))
noncomputable def yr:NFun:=⟨(reg [o e.b (.move kf) 0]).seq ((reg [o e.c (.move (.const (.int .i32 (.lit 94)))) 0]).seq ((reg [o e.f (.move (k 0)) 0]).seq (((reg [m e.a.b e 0,o e.a.c (.lenStr (t e.a.b)) 1,b e.a.f .geq (t e.a.c) (k 1) 2,m e.b.a e.a.f 3,G e.b.b (.move (t e)) e.b.a true 4,G e.b.c (.indexStr (t e.b.b) (k 0)) e.b.a true 5,G e.b.f (.bin .num .eql (t e.b.c) (kb 45)) e.b.a true 6,G e.c.a (.move (t e.b.f)) e.b.a true 7,G e.c.b (.move (t e)) e.c.a false 8,G e.c.c (.indexStr (t e.c.b) (k 0)) e.c.a false 9,G e.c.f (.bin .num .eql (t e.c.c) (kb 43)) e.c.a false 10,G e.f.a (.pick (t e.c.a) kt (t e.c.f)) e.b.a true 11,o e.f.b (.pick (t e.b.a) (t e.f.a) kf) 12]).seq (NC.cond (t e.f.b) (reg [m e.f.c e 0,o e.f.f (.sliceStr (t e.f.c) (some (k 1)) none) 1,m e e.f.f 2]) NC.skip)).seq ((reg [o e.a.a (.move kf) 0]).seq (((reg [m e.a.a.a e 0,o e.a.a.b (.lenStr (t e.a.a.a)) 1,b e.a.a.c .geq (t e.a.a.b) (k 2) 2,m e.a.a.f e.a.a.c 3,G e.a.b.a (.move (t e)) e.a.a.f true 4,G e.a.b.b (.indexStr (t e.a.b.a) (k 0)) e.a.a.f true 5,G e.a.b.c (.bin .num .eql (t e.a.b.b) (kb 48)) e.a.a.f true 6,o e.a.b.f (.pick (t e.a.a.f) (t e.a.b.c) kf) 7,m e.a.c.a e.a.b.f 8,G e.a.c.b (.move (t e)) e.a.c.a true 9,G e.a.c.c (.indexStr (t e.a.c.b) (k 1)) e.a.c.a true 10,G e.a.c.f (.call (F 129) [t e.a.c.c]) e.a.c.a true 11,G e.a.f.a (.bin .num .eql (t e.a.c.f) (kb 98)) e.a.c.a true 12,G e.a.f.b (.move (t e.a.f.a)) e.a.c.a true 13,G e.a.f.c (.move (t e)) e.a.f.b false 14,G e.a.f.f (.indexStr (t e.a.f.c) (k 1)) e.a.f.b false 15,G e.b.a.a (.call (F 129) [t e.a.f.f]) e.a.f.b false 16,G e.b.a.b (.bin .num .eql (t e.b.a.a) (kb 111)) e.a.f.b false 17,G e.b.a.c (.pick (t e.a.f.b) kt (t e.b.a.b)) e.a.c.a true 18,G e.b.a.f (.move (t e.b.a.c)) e.a.c.a true 19,G e.b.b.a (.move (t e)) e.b.a.f false 20,G e.b.b.b (.indexStr (t e.b.b.a) (k 1)) e.b.a.f false 21,G e.b.b.c (.call (F 129) [t e.b.b.b]) e.b.a.f false 22,G e.b.b.f (.bin .num .eql (t e.b.b.c) (kb 120)) e.b.a.f false 23,G e.b.c.a (.pick (t e.b.a.f) kt (t e.b.b.f)) e.a.c.a true 24,o e.b.c.b (.pick (t e.a.c.a) (t e.b.c.a) kf) 25]).seq (NC.cond (t e.b.c.b) ((reg [o e.f (.move (k 2)) 0]).seq ((reg [o e.c (.move (.const (.int .i32 (.lit 48)))) 0]).seq (reg [m e.b.c.c e 0,o e.b.c.f (.indexStr (t e.b.c.c) (k 1)) 1,o e.b.f.a (.call (F 129) [t e.b.c.f]) 2,b e.b.f.b .eql (t e.b.f.a) (kb 120) 3,m e.a.a e.b.f.b 4]))) NC.skip)).seq ((NC.block 0 uJ.loop).seq ((reg [m e.a.a.b.f e.c 0,b e.a.a.c.a .neq (t e.a.a.b.f) (.const (.int .i32 (.lit 95))) 1,m e.b e.a.a.c.a 2]).seq NC.ret))))))),94, [.tmp e.b]⟩
theorem tb:ak Tryd.prog 130=some (.code yr):=by kernel_rfl
noncomputable def yg:NFun:=⟨(reg [o e.b (.move (k 0)) 0]).seq (((reg [m e.c e 0,b e.f .eql (t e.c) (.const (.int .u32 (.lit 0))) 1]).seq (NC.cond (t e.f) ((reg [o e.b (.move (k 32)) 0]).seq NC.ret) NC.skip)).seq ((reg [m e.a.a e 0,m e.a.b e 1,o e.a.c (.un .neg (t e.a.b)) 2,b e.a.f .and (t e.a.a) (t e.a.c) 3,b e.b.a .mul (t e.a.f) (.const (.int .u32 (.lit 125613361))) 4,b e.b.b .shr (t e.b.a) (ku 27) 5,o e.b.c (.indexArr 1 32 (.const (.ptr e.a.b 0)) (t e.b.b)) 6,l e.b.f e.b.c 7,o e.c.a (.toInt .i64 (t e.b.f)) 8,m e.b e.c.a 9]).seq NC.ret)),14, [.tmp e.b]⟩
theorem uq:ak Tryd.prog 136=some (.code yg):=by kernel_rfl
noncomputable def yt:NFun:=⟨(reg [o e.b (.move (k 0)) 0]).seq (((reg [m e.c e 0,b e.f .eql (t e.c) (ku 0) 1]).seq (NC.cond (t e.f) ((reg [o e.b (.move (k 64)) 0]).seq NC.ret) NC.skip)).seq ((reg [m e.a.a e 0,m e.a.b e 1,o e.a.c (.un .neg (t e.a.b)) 2,b e.a.f .and (t e.a.a) (t e.a.c) 3,b e.b.a .mul (t e.a.f) (ku 285870213051353865) 4,b e.b.b .shr (t e.b.a) (ku 58) 5,o e.b.c (.indexArr 1 64 (.const (.ptr e.a.c 0)) (t e.b.b)) 6,l e.b.f e.b.c 7,o e.c.a (.toInt .i64 (t e.b.f)) 8,m e.b e.c.a 9]).seq NC.ret)),14, [.tmp e.b]⟩
theorem sG:ak Tryd.prog 137=some (.code yt):=by kernel_rfl
noncomputable def tk:NC:=(((reg [m e.b.a e.a.a 0,m e.b.b e 1,o e.b.c (.lenStr (t e.b.b)) 2,b e.b.f .lss (t e.b.a) (t e.b.c) 3]).seq (NC.cond (t e.b.f) NC.skip (NC.exit 0))).seq ((NC.block 1 (reg [m e.c.c e.f 0,b e.c.f .mul (t e.c.c) (.const (.int .u32 (.lit 16777619))) 1,m e.f.a e 2,m e.f.b e.a.a 3,o e.f.c (.indexStr (t e.f.a) (t e.f.b)) 4,o e.f.f (.toInt .u32 (t e.f.c)) 5,b e.a.a.a .add (t e.c.f) (t e.f.f) 6,m e.f e.a.a.a 7])).seq (reg [m e.c.a e.a.a 0,b e.c.b .add (t e.c.a) (k 1) 1,m e.a.a e.c.b 2])))
noncomputable def tl:NC:=(((reg [m e.a.a.f e.a.f 0,b e.a.b.a .gtr (t e.a.a.f) (k 0) 1]).seq (NC.cond (t e.a.b.a) NC.skip (NC.exit 2))).seq ((NC.block 3 (((reg [m e.a.b.f e.a.f 0,b e.a.c.a .and (t e.a.b.f) (k 1) 1,b e.a.c.b .neq (t e.a.c.a) (k 0) 2]).seq (NC.cond (t e.a.c.b) (reg [m e.a.c.c e.a.b 0,m e.a.c.f e.a.c 1,b e.a.f.a .mul (t e.a.c.c) (t e.a.c.f) 2,m e.a.b e.a.f.a 3]) NC.skip)).seq (reg [m e.a.f.b e.a.c 0,m e.a.f.c e.a.c 1,b e.a.f.f .mul (t e.a.f.b) (t e.a.f.c) 2,m e.a.c e.a.f.f 3]))).seq (reg [m e.a.b.b e.a.f 0,b e.a.b.c .shr (t e.a.b.b) (ku 1) 1,m e.a.f e.a.b.c 2])))
noncomputable def yp:NFun:=⟨(reg [o e.b (.move (.const (.int .u32 (.lit 0)))) 0,o e.c (.move (.const (.int .u32 (.lit 0)))) 1]).seq ((reg [o e.f (.move (.const (.int .u32 (.lit 0)))) 0]).seq (((reg [o e.a.a (.move (k 0)) 0]).seq (NC.block 0 tk.loop)).seq ((reg [o e.a.b (.move (.const (.int .u32 (.lit 1)))) 0,o e.a.c (.move (.const (.int .u32 (.lit 16777619)))) 1]).seq (((reg [m e.a.a.b e 0,o e.a.a.c (.lenStr (t e.a.a.b)) 1,m e.a.f e.a.a.c 2]).seq (NC.block 2 tl.loop)).seq ((reg [m e.b.a.a e.f 0,m e.b.a.b e.a.b 1,m e.b e.b.a.a 2,m e.c e.b.a.b 3]).seq NC.ret))))),39, [.tmp e.b,.tmp e.c]⟩
theorem um:ak Tryd.prog 139=some (.code yp):=by kernel_rfl
end LI
namespace LI
open Go Nm Go.Proofs
open Nm.D4 (e)
open Nm.NC (reg regD)
open Nm.C
noncomputable def code:Nat->Option NFn:=(aw 64 (aw 25 (aw 12 (aw 6 (aw 4 (aw 3 (av Tryd.prog 3 Ef) (av Tryd.prog 4 Eb)) (aw 5 (av Tryd.prog 5 Ee) (av Tryd.prog 6 Di))) (aw 9 (aw 8 (av Tryd.prog 8 Ea) (av Tryd.prog 9 C7)) (aw 10 (av Tryd.prog 10 Ci) (aw 11 (av Tryd.prog 11 wU) (av Tryd.prog 12 A3))))) (aw 20 (aw 18 (aw 13 (av Tryd.prog 13 BU) (av Tryd.prog 18 zf)) (aw 19 (av Tryd.prog 19 Bk) (av Tryd.prog 20 Cp))) (aw 22 (aw 21 (av Tryd.prog 21 zL) (av Tryd.prog 22 Cc)) (aw 23 (av Tryd.prog 23 Cw) (aw 24 (av Tryd.prog 24 Aq) (av Tryd.prog 25 zr)))))) (aw 43 (aw 29 (aw 27 (aw 26 (av Tryd.prog 26 A7) (av Tryd.prog 27 Cr)) (aw 28 (av Tryd.prog 28 Cu) (av Tryd.prog 29 AM))) (aw 40 (aw 39 (av Tryd.prog 39 Ba) (av Tryd.prog 40 Ap)) (aw 41 (av Tryd.prog 41 BG) (aw 42 (av Tryd.prog 42 Ah) (av Tryd.prog 43 BK))))) (aw 59 (aw 45 (aw 44 (av Tryd.prog 44 Ca) (av Tryd.prog 45 AE)) (aw 58 (av Tryd.prog 58 Cb) (av Tryd.prog 59 B4))) (aw 61 (aw 60 (av Tryd.prog 60 AD) (av Tryd.prog 61 AN)) (aw 62 (av Tryd.prog 62 AQ) (aw 63 (av Tryd.prog 63 Bc) (av Tryd.prog 64 Be))))))) (aw 94 (aw 73 (aw 68 (aw 66 (aw 65 (av Tryd.prog 65 zj) (av Tryd.prog 66 zb)) (aw 67 (av Tryd.prog 67 zY) (av Tryd.prog 68 A8))) (aw 70 (aw 69 (av Tryd.prog 69 AY) (av Tryd.prog 70 Ck)) (aw 71 (av Tryd.prog 71 AA) (aw 72 (av Tryd.prog 72 BL) (av Tryd.prog 73 Az))))) (aw 89 (aw 75 (aw 74 (av Tryd.prog 74 Bi) (av Tryd.prog 75 B3)) (aw 76 (av Tryd.prog 76 Bm) (av Tryd.prog 89 y6))) (aw 91 (aw 90 (av Tryd.prog 90 By) (av Tryd.prog 91 Bv)) (aw 92 (av Tryd.prog 92 BF) (aw 93 (av Tryd.prog 93 BZ) (av Tryd.prog 94 Br)))))) (aw 122 (aw 99 (aw 97 (aw 95 (av Tryd.prog 95 BS) (av Tryd.prog 97 BI)) (aw 98 (av Tryd.prog 98 Cj) (av Tryd.prog 99 CA))) (aw 119 (aw 100 (av Tryd.prog 100 yo) (av Tryd.prog 119 yk)) (aw 120 (av Tryd.prog 120 yj) (aw 121 (av Tryd.prog 121 yq) (av Tryd.prog 122 yi))))) (aw 128 (aw 124 (aw 123 (av Tryd.prog 123 yf) (av Tryd.prog 124 yu)) (aw 125 (av Tryd.prog 125 yF) (aw 127 (av Tryd.prog 127 yw) (av Tryd.prog 128 yn)))) (aw 130 (aw 129 (av Tryd.prog 129 ye) (av Tryd.prog 130 yr)) (aw 136 (av Tryd.prog 136 yg) (aw 137 (av Tryd.prog 137 yt) (av Tryd.prog 139 yp))))))))
theorem aN:di Tryd.prog code:=(af (af (af (af (af (af (ae zM) (ae Ag)) (af (ae Ab) (ae pG))) (af (af (ae zd) (ae uH)) (af (ae xD) (af (ae mj) (ae ww))))) (af (af (af (ae x6) (ae qC)) (af (ae xT) (ae xJ))) (af (af (ae pZ) (ae xg)) (af (ae xr) (af (ae qh) (ae qo)))))) (af (af (af (af (ae wa) (ae xO)) (af (ae wH) (ae vp))) (af (af (ae vK) (ae qB)) (af (ae wk) (af (ae qc) (ae xh))))) (af (af (af (ae vA) (ae vI)) (af (ae wd) (ae vn))) (af (af (ae xA) (ae wJ)) (af (ae xM) (af (ae xk) (ae x7))))))) (af (af (af (af (af (ae qA) (ae pY)) (af (ae ql) (ae xX))) (af (af (ae vu) (ae wg)) (af (ae vt) (af (ae wF) (ae vZ))))) (af (af (af (ae vz) (ae xN)) (af (ae v7) (ae qr))) (af (af (ae vW) (ae we)) (af (ae xW) (af (ae xY) (ae vv)))))) (af (af (af (af (ae xm) (ae xq)) (af (ae vF) (ae wZ))) (af (af (ae ul) (ae tT)) (af (ae tF) (af (ae uQ) (ae sR))))) (af (af (af (ae s8) (ae sE)) (af (ae tQ) (af (ae uO) (ae sM)))) (af (af (ae uC) (ae tb)) (af (ae uq) (af (ae sG) (ae um))))))))
end LI
open Go Nm Go.Proofs Go.RowKit
open Go.Proofs.YtbjinflchdkhiaaDoor
namespace LI
noncomputable def M0 (t u x y:Nat):NH:=((((G0.add (.cells false [])).add (.cells false [])).put (D4.of 0) (.cells false [.ifc t (.ptr (D4.of 8) x)])).put (D4.of 1) (.cells false [.ifc u (.ptr (D4.of 9) y)])).put (D4.of 2) (.cells false ei)
noncomputable def M1:NH:=G0.put (D4.of 2) (.cells false ei)
theorem zA:Tryd.prog.globalNamed "internal/strconv.uint64pow10" =some 2:=by kernel_rfl
theorem AX:Tryd.prog.globalNamed "strconv.ErrSyntax" =some 0:=by kernel_rfl
theorem Bs:Tryd.prog.globalNamed "strconv.ErrRange" =some 1:=by kernel_rfl
theorem yD:Tryd.prog.globalNamed "math/bits.deBruijn64tab" =some 7:=by kernel_rfl
theorem DO:(Tryd.prog.globals[2]?).map (·.type)=some 184:=by kernel_rfl
theorem Dw:(Tryd.prog.globals[0]?).map (·.type)=some 66:=by kernel_rfl
theorem Dv:(Tryd.prog.globals[1]?).map (·.type)=some 66:=by kernel_rfl
theorem DW:Tryd.prog.cellsOf 184=20:=by kernel_rfl
theorem Es:Tryd.prog.cellsOf 70=1:=by kernel_rfl
theorem xd:(Rows.laid_internal_strconv_uint64pow10:DataW Unit)=Lib.tabData .u64 Lib.pow10Tab:=by rfl
section
variable [Val]
theorem sK {W:World} {cs:Array Value} {fuel:Nat} {p:List MemPlace} (hv:W.var? Tryd.prog "internal/strconv.uint64pow10" =some cs)
 (hd:DataW.trod (fun _=>()) Tryd.prog W 0 (fun _=>true) false fuel 184 cs.toList=some (Rows.laid_internal_strconv_uint64pow10,p)) {ι:az} {m:NH} (h:Ro Tryd.prog W ι m):Ro Tryd.prog W ι (m.put (D4.of 2) (.cells false ei)):=by
 rw[xd] at hd
 have hc:=Lib.cells_of_tab Tryd.underlying184 Tryd.underlying70 Es DW hd
 unfold World.var? at hv
 rw[zA] at hv
 simp only[Option.bind_some] at hv
 split at hv
 ·rename_i cur T fz hb
  cases hv
  refine h.lay (g:=2) (by decide) hb (by rw[←Array.length_toList,hc];simp[Lib.pow10Tab_length];rfl) ?_ ?_
  ·rw[hc,ld]
   generalize Lib.pow10Tab=zs
   induction zs with
   |nil=>exact .nil
   |cons z zs ih=>exact .cons _ _ _ _ (.int _ _) ih
  ·rw[hc]
   intro v hv
   obtain ⟨z,_,rfl⟩:=List.mem_map.1 hv
   rfl
 ·cases hv
theorem jo {H:Type} {enc:TypeId×Value->H} {P:Program} {w:World} {base:Nat} {sp:Nat->Bool} {n:Nat} {t:TypeId} {cs:List Value} {ms:Array (String×TypeId)} {name:String} {d:DataW H} {p:List MemPlace} (ht:P.underlying t=some (.interface ms))
 (h:DataW.trod enc P w base sp false n t cs=some (.iface name d,p)):∃u v n' p',cs= [.iface u v]/\P.typeName? 3 u=some name/\DataW.trod enc P w base sp false n' u v.cells.toList=some (d,p'):=by
 cases n with
 |zero=>cases h
 |succ n=>
  match cs,h with
  | [.iface u v],h=>
   simp only[DataW.trod,ht] at h
   split at h
   ·rename_i q;cases q
   ·rename_i hn
    obtain ⟨x,hx,he⟩:=Option.map_eq_some_iff.1 h
    simp only[Prod.mk.injEq,DataW.iface.injEq] at he
    obtain ⟨⟨rfl,rfl⟩,_⟩:=he
    exact ⟨u,v,n,x.2,rfl,hn,hx⟩
   ·cases h
  | [],h=>simp[DataW.trod,ht] at h
  | [.nilIface],h=>simp[DataW.trod,ht] at h
  |a::b::c,h=>simp[DataW.trod,ht] at h
  | [.bool _],h=>simp[DataW.trod,ht] at h
  | [.int _ _],h=>simp[DataW.trod,ht] at h
  | [.float _ _],h=>simp[DataW.trod,ht] at h
  | [.complex _ _ _],h=>simp[DataW.trod,ht] at h
  | [.string _],h=>simp[DataW.trod,ht] at h
  | [.pointer _],h=>simp[DataW.trod,ht] at h
  | [.slice _ _ _],h=>simp[DataW.trod,ht] at h
  | [.map _],h=>simp[DataW.trod,ht] at h
  | [.chan _],h=>simp[DataW.trod,ht] at h
  | [.nilFunc],h=>simp[DataW.trod,ht] at h
  | [.func _ _ _],h=>simp[DataW.trod,ht] at h
  | [.agg _],h=>simp[DataW.trod,ht] at h
  | [.tuple _],h=>simp[DataW.trod,ht] at h
theorem lD {H:Type} {enc:TypeId×Value->H} {P:Program} {w:World} {base:Nat} {sp:Nat->Bool} {n:Nat} {t:TypeId} {cs:List Value} {d:DataW H} {p:List MemPlace}
 (h:DataW.trod enc P w base sp false n t cs=some (.ptr d,p)):∃e a,P.underlying t=some (.pointer e)/\cs= [.pointer (some a)]:=by
 cases n with
 |zero=>cases h
 |succ n=>
  unfold DataW.trod at h
  split at h
  all_goals first
   |(cases h;done)
   |(exact ⟨_,_,‹_›,rfl⟩)
   |(split at h<;>first|(cases h;done)|(obtain ⟨x,_,he⟩:=Option.map_eq_some_iff.1 h;cases he;done)|skip)
   |(obtain ⟨x,_,he⟩:=Option.map_eq_some_iff.1 h;cases he;done)
   |skip
  ·dsimp only at h
   obtain ⟨x,_,he⟩:=Option.bind_eq_some_iff.1 h
   obtain ⟨y,_,he⟩:=Option.map_eq_some_iff.1 he
   cases he
  ·split at h
   ·obtain ⟨x,_,he⟩:=Option.bind_eq_some_iff.1 h
    dsimp only at he
    split at he<;>cases he
   ·cases h
set_option maxRecDepth 100000 in
theorem mM {W:World} {name:String} {g:Nat} (hg:Tryd.prog.globalNamed name=some g) {cs:Array Value} {fuel:Nat} {p:List MemPlace} {d:DataW Unit} (hv:W.var? Tryd.prog name=some cs)
 (hd:DataW.trod (fun _=>()) Tryd.prog W 0 (fun _=>true) false fuel 66 cs.toList=some (.iface "*errors.errorString" (.ptr d),p)) (hok:∀u v,W.cell? ⟨g,0,none⟩=some (.iface u v)->Value.okWide Tryd.prog W .any 0 u v):
 ∃u b o T fz cur T' fz',W.heap[g]? =some (.cells #[.iface u (.pointer (some ⟨b,o,none⟩))] T fz)/\W.heap[b]? =some (.cells cur T' fz'):=by
 unfold World.var? at hv
 rw[hg] at hv
 simp only[Option.bind_some] at hv
 split at hv
 ·rename_i cur T fz hb
  cases hv
  obtain ⟨u,v,n',p',hcs,hn,hx⟩:=jo Tryd.underlying66 hd
  obtain rfl:cs=#[.iface u v]:=by apply Array.ext';simpa using hcs
  have hcell:W.cell? ⟨g,0,none⟩=some (.iface u v):=by unfold World.cell?;rw[hb];rfl
  have hok:=hok _ _ hcell
  obtain ⟨e,a,hu,hva⟩:=lD hx
  have hva:v= .pointer (some a):=by
   cases v with
   |pointer q=>have: [Value.pointer q]= [Value.pointer (some a)]:=hva;simpa using this
   |_=>simp only[Value.okWide,hu,Cell.okWide,Cell.ok] at hok
  subst hva
  simp only[Value.okWide,hu,Cell.okWide,Cell.ok,World.has] at hok
  obtain ⟨_,hsp,row,cells,hsh,_⟩:=hok
  obtain ⟨b,o,sp⟩:=a
  dsimp only at hsp hsh
  subst hsp
  unfold World.shape? at hsh
  split at hsh
  ·rename_i cur T' fz' hb'
   exact ⟨u,b,o,T,fz,cur,T',fz',hb,hb'⟩
  ·cases hsh
 ·cases hv
set_option maxRecDepth 100000 in
theorem zH {W:World} (hL:laidMetH Tryd.prog Rows.listingWrongRow.laid W):∃t u x y ι,Ro Tryd.prog W ι (M0 t u x y):=by
 rw[MakeChecks.laidMetH_plain _ _ _ (by kernel_rfl)] at hL
 obtain ⟨ps,⟨g0,t0,cs0,f0,p0,q0,_,_,_,_,⟨g1,t1,cs1,f1,p1,q1,hg1,_,hv1,_,⟨g2,t2,cs2,f2,p2,q2,hg2,ht2,hv2,hd2,⟨g3,t3,cs3,f3,p3,q3,_,_,_,_,⟨g4,t4,cs4,f4,p4,q4,hg4,ht4,hv4,hd4,⟨g5,t5,cs5,f5,p5,q5,hg5,ht5,hv5,hd5,_,e5⟩,e4⟩,e3⟩,e2⟩,e1⟩,e0⟩,hnd,hps⟩:=hL
 obtain rfl:=Option.some.inj (zA.symm.trans hg2)
 obtain rfl:=Option.some.inj (Bs.symm.trans hg4)
 obtain rfl:=Option.some.inj (AX.symm.trans hg5)
 obtain rfl:=Option.some.inj (DO.symm.trans ht2)
 obtain rfl:=Option.some.inj (Dv.symm.trans ht4)
 obtain rfl:=Option.some.inj (Dw.symm.trans ht5)
 have mem:∀{g n:Nat},0<n->MemPlace.cell g 0∈MemPlace.row ⟨g,0,none⟩ n:=fun h=>List.mem_map.2 ⟨0,List.mem_range.2 h,rfl⟩
 have sz:∀{cs:Array Value} {f:Nat} {x:DataW Unit×List MemPlace},DataW.trod (fun _=>()) Tryd.prog W 0 (fun _=>true) false f 66 cs.toList=some x->0<cs.size:=fun {cs f x} h=>by
  cases f with
  |zero=>cases h
  |succ f=>
   simp only[DataW.trod,Tryd.underlying66] at h
   rcases Nat.eq_zero_or_pos cs.size with hz|hz
   ·have:cs.toList= []:=by simpa using hz
    rw[this] at h
    simp at h
   ·exact hz
 have m4:MemPlace.cell 1 0∈ps:=by
  rw[e0,e1,e2,e3,e4]
  exact List.mem_append_right _ (List.mem_append_right _ (List.mem_append_right _ (List.mem_append_right _ (List.mem_append_left _ (List.mem_append_left _ (mem (sz hd4)))))))
 have m5:MemPlace.cell 0 0∈ps:=by
  rw[e0,e1,e2,e3,e4,e5]
  exact List.mem_append_right _ (List.mem_append_right _ (List.mem_append_right _ (List.mem_append_right _ (List.mem_append_right _ (List.mem_append_left _ (List.mem_append_left _ (mem (sz hd5))))))))
 obtain ⟨u4,b4,o4,T4,z4,c4,T4',z4',w4,w4'⟩:=mM Bs hv4 hd4 (hps 1 0 m4).2
 obtain ⟨u5,b5,o5,T5,z5,c5,T5',z5',w5,w5'⟩:=mM AX hv5 hd5 (hps 0 0 m5).2
 have hn:NG<=W.heap.size:=by
  unfold World.var? at hv1
  obtain rfl:=Option.some.inj (yD.symm.trans hg1)
  rw[yD] at hv1
  simp only[Option.bind_some] at hv1
  split at hv1
  ·rename_i hb;exact (Array.getElem?_eq_some_iff.1 hb).1
  ·cases hv1
 obtain ⟨ι1,R1,l1,_,i1,_,_⟩:=(Ro.nil Tryd.prog W hn).addE (c:= []) w5' (o:=0) (by simp) (fun i v h=>by simp at h)
 obtain ⟨ι2,R2,l2,_,i2,_,_⟩:=R1.addE (c:= []) w4' (o:=0) (by simp) (fun i v h=>by simp at h)
 have e1:G0.next=D4.of 8:=rfl
 have e2:(G0.add (.cells false [])).next=D4.of 9:=by kernel_rfl
 rw[e1] at i1
 rw[e2] at i2
 have p5:VR ι2 (.ptr (D4.of 8) o5) (.pointer (some ⟨b5,o5,none⟩)):=by have:=VR.ptr (D4.of 8) o5 _ (l2 _ _ i1);simpa using this
 have p4:VR ι2 (.ptr (D4.of 9) o4) (.pointer (some ⟨b4,o4,none⟩)):=by have:=VR.ptr (D4.of 9) o4 _ i2;simpa using this
 have R3:=R2.lay (g:=0) (c:= [.ifc u5 (.ptr (D4.of 8) o5)]) (by decide) w5 rfl (.cons _ _ _ _ (.ifc _ _ _ p5) .nil) (by simp[Value.oneCell'])
 have R4:=R3.lay (g:=1) (c:= [.ifc u4 (.ptr (D4.of 9) o4)]) (by decide) w4 rfl (.cons _ _ _ _ (.ifc _ _ _ p4) .nil) (by simp[Value.oneCell'])
 exact ⟨u5,u4,o5,o4,_,sK hv2 hd2 R4⟩
end
end LI
/-
  DERIVED: THE SHELF's CONTRACTS AT THIS DUMP, IN PLAIN WORDS (tools/lay-plain.mjs out of 'TrydShq.lean', which tools/lay-shelf.mjs wrote): THE SAME DECLARATIONS UNDER THE SAME NAMES: 'import', 'namespace', 'open', 'def', 'theorem' AND NOTHING ELSE: no command of the shelf's: FOR A HAND-IN. Each laying: the table of numbers ('.._ren') and one theorem, a field a fact of the dump's own or the kernel's comparison; each contract: ONE APPLICATION.
-/
namespace Go.Proofs
open Go.Shelf
def Tryd.laysM171_ren : Go.Shelf.Ren := ⟨fun | 171 => 20 | 243 => 41 | 246 => 68 | 283 => 90 | 284 => 91 | 285 => 92 | 286 => 93 | 129 => 120 | 317 => 119 | 318 => 121 | 319 => 122 | 320 => 123 | 337 => 136 | 338 => 137 | n => n, fun | 3 => 3 | 9 => 9 | 2 => 2 | 4 => 4 | 171 => 152 | 0 => 0 | 53 => 70 | 37 => 43 | 5 => 5 | 173 => 155 | 212 => 184 | 51 => 54 | 20 => 20 | 213 => 185 | 46 => 106 | 232 => 204 | 233 => 205 | n => n, fun | 17 => 2 | 18 => 6 | 19 => 7 | n => n⟩
theorem Tryd.laysM171 : Go.Proofs.LaysM.n171 Tryd.prog Tryd.laysM171_ren := {
  mixed := by kernel_rfl
  f129 := Tryd.func120.trans (congrArg some (by kernel_rfl))
  f171 := Tryd.func20.trans (congrArg some (by kernel_rfl))
  f243 := Tryd.func41.trans (congrArg some (by kernel_rfl))
  f246 := Tryd.func68.trans (congrArg some (by kernel_rfl))
  f283 := Tryd.func90.trans (congrArg some (by kernel_rfl))
  f284 := Tryd.func91.trans (congrArg some (by kernel_rfl))
  f285 := Tryd.func92.trans (congrArg some (by kernel_rfl))
  f286 := Tryd.func93.trans (congrArg some (by kernel_rfl))
  f317 := Tryd.func119.trans (congrArg some (by kernel_rfl))
  f318 := Tryd.func121.trans (congrArg some (by kernel_rfl))
  f319 := Tryd.func122.trans (congrArg some (by kernel_rfl))
  f320 := Tryd.func123.trans (congrArg some (by kernel_rfl))
  f337 := Tryd.func136.trans (congrArg some (by kernel_rfl))
  f338 := Tryd.func137.trans (congrArg some (by kernel_rfl))
  t0 := Tryd.underlying0
  a0 := Tryd.isAgg0
  z0 := Tryd.sizeOf0
  v0 := Tryd.zeroValue0
  t2 := Tryd.underlying2
  a2 := Tryd.isAgg2
  z2 := Tryd.sizeOf2
  v2 := Tryd.zeroValue2
  t3 := Tryd.underlying3
  a3 := Tryd.isAgg3
  z3 := Tryd.sizeOf3
  v3 := Tryd.zeroValue3
  t4 := Tryd.underlying4
  a4 := Tryd.isAgg4
  z4 := Tryd.sizeOf4
  v4 := Tryd.zeroValue4
  t5 := Tryd.underlying5
  a5 := Tryd.isAgg5
  z5 := Tryd.sizeOf5
  v5 := Tryd.zeroValue5
  t9 := Tryd.underlying9
  a9 := Tryd.isAgg9
  z9 := Tryd.sizeOf9
  v9 := Tryd.zeroValue9
  t20 := Tryd.underlying20
  a20 := Tryd.isAgg20
  z20 := Tryd.sizeOf20
  v20 := Tryd.zeroValue20
  t37 := Tryd.underlying43
  a37 := Tryd.isAgg43
  z37 := Tryd.sizeOf43
  v37 := Tryd.zeroValue43
  t46 := Tryd.underlying106
  a46 := Tryd.isAgg106
  z46 := Tryd.sizeOf106
  v46 := Tryd.zeroValue106
  t51 := Tryd.underlying54
  a51 := Tryd.isAgg54
  z51 := Tryd.sizeOf54
  v51 := Tryd.zeroValue54
  t53 := Tryd.underlying70
  a53 := Tryd.isAgg70
  z53 := Tryd.sizeOf70
  v53 := Tryd.zeroValue70
  t171 := Tryd.underlying152
  a171 := Tryd.isAgg152
  z171 := Tryd.sizeOf152
  v171 := Tryd.zeroValue152
  t173 := Tryd.underlying155
  a173 := Tryd.isAgg155
  z173 := Tryd.sizeOf155
  v173 := Tryd.zeroValue155
  t212 := Tryd.underlying184
  a212 := Tryd.isAgg184
  z212 := Tryd.sizeOf184
  v212 := Tryd.zeroValue184
  t213 := Tryd.underlying185
  a213 := Tryd.isAgg185
  z213 := Tryd.sizeOf185
  t232 := Tryd.underlying204
  a232 := Tryd.isAgg204
  z232 := Tryd.sizeOf204
  v232 := Tryd.zeroValue204
  t233 := Tryd.underlying205
  a233 := Tryd.isAgg205
  z233 := Tryd.sizeOf205
  v233 := Tryd.zeroValue205
  g17 := by kernel_rfl
  g18 := by kernel_rfl
  g19 := by kernel_rfl
  i0 := by kernel_rfl
  i2 := by kernel_rfl
  i3 := by kernel_rfl
  i4 := by kernel_rfl
  i5 := by kernel_rfl
  i9 := by kernel_rfl
  i20 := by kernel_rfl
  i37 := by kernel_rfl
  i46 := by kernel_rfl
  i51 := by kernel_rfl
  i53 := by kernel_rfl
  i171 := by kernel_rfl
  i173 := by kernel_rfl
  i212 := by kernel_rfl
  i232 := by kernel_rfl
  i233 := by kernel_rfl
  m17 := by kernel_rfl
  m18 := by kernel_rfl
  m19 := by kernel_rfl }
def Tryd.laysM279_ren : Go.Shelf.Ren := ⟨fun | 279 => 73 | 316 => 99 | n => n, fun | 9 => 9 | 168 => 135 | 75 => 66 | 210 => 165 | 3 => 3 | 4 => 4 | 37 => 43 | 0 => 0 | 127 => 126 | 80 => 99 | 5 => 5 | n => n, fun | 15 => 0 | n => n⟩
theorem Tryd.laysM279 : Go.Proofs.LaysM.n279 Tryd.prog Tryd.laysM279_ren := {
  mixed := by kernel_rfl
  f279 := Tryd.func73.trans (congrArg some (by kernel_rfl))
  f316 := Tryd.func99.trans (congrArg some (by kernel_rfl))
  t0 := Tryd.underlying0
  a0 := Tryd.isAgg0
  z0 := Tryd.sizeOf0
  v0 := Tryd.zeroValue0
  t3 := Tryd.underlying3
  a3 := Tryd.isAgg3
  z3 := Tryd.sizeOf3
  v3 := Tryd.zeroValue3
  t4 := Tryd.underlying4
  a4 := Tryd.isAgg4
  z4 := Tryd.sizeOf4
  v4 := Tryd.zeroValue4
  t9 := Tryd.underlying9
  a9 := Tryd.isAgg9
  z9 := Tryd.sizeOf9
  v9 := Tryd.zeroValue9
  t37 := Tryd.underlying43
  a37 := Tryd.isAgg43
  z37 := Tryd.sizeOf43
  v37 := Tryd.zeroValue43
  t75 := Tryd.underlying66
  a75 := Tryd.isAgg66
  z75 := Tryd.sizeOf66
  v75 := Tryd.zeroValue66
  t127 := Tryd.underlying126
  a127 := Tryd.isAgg126
  z127 := Tryd.sizeOf126
  v127 := Tryd.zeroValue126
  t168 := Tryd.underlying135
  a168 := Tryd.isAgg135
  z168 := Tryd.sizeOf135
  v168 := Tryd.zeroValue135
  t210 := Tryd.underlying165
  a210 := Tryd.isAgg165
  z210 := Tryd.sizeOf165
  v210 := Tryd.zeroValue165
  g15 := by kernel_rfl
  t5 := Tryd.underlying5
  a5 := Tryd.isAgg5
  z5 := Tryd.sizeOf5
  v5 := Tryd.zeroValue5
  t80 := Tryd.underlying99
  a80 := Tryd.isAgg99
  z80 := Tryd.sizeOf99
  v80 := Tryd.zeroValue99
  i0 := by kernel_rfl
  i3 := by kernel_rfl
  i4 := by kernel_rfl
  i5 := by kernel_rfl
  i9 := by kernel_rfl
  i37 := by kernel_rfl
  i75 := by kernel_rfl
  i80 := by kernel_rfl
  i127 := by kernel_rfl
  i168 := by kernel_rfl
  i210 := by kernel_rfl
  m15 := by kernel_rfl }
def Tryd.laysM280_ren : Go.Shelf.Ren := ⟨fun | 280 => 74 | 316 => 99 | n => n, fun | 9 => 9 | 168 => 135 | 75 => 66 | 210 => 165 | 3 => 3 | 4 => 4 | 37 => 43 | 0 => 0 | 127 => 126 | 80 => 99 | 5 => 5 | n => n, fun | 16 => 1 | n => n⟩
theorem Tryd.laysM280 : Go.Proofs.LaysM.n280 Tryd.prog Tryd.laysM280_ren := {
  mixed := by kernel_rfl
  f280 := Tryd.func74.trans (congrArg some (by kernel_rfl))
  f316 := Tryd.func99.trans (congrArg some (by kernel_rfl))
  t0 := Tryd.underlying0
  a0 := Tryd.isAgg0
  z0 := Tryd.sizeOf0
  v0 := Tryd.zeroValue0
  t3 := Tryd.underlying3
  a3 := Tryd.isAgg3
  z3 := Tryd.sizeOf3
  v3 := Tryd.zeroValue3
  t4 := Tryd.underlying4
  a4 := Tryd.isAgg4
  z4 := Tryd.sizeOf4
  v4 := Tryd.zeroValue4
  t9 := Tryd.underlying9
  a9 := Tryd.isAgg9
  z9 := Tryd.sizeOf9
  v9 := Tryd.zeroValue9
  t37 := Tryd.underlying43
  a37 := Tryd.isAgg43
  z37 := Tryd.sizeOf43
  v37 := Tryd.zeroValue43
  t75 := Tryd.underlying66
  a75 := Tryd.isAgg66
  z75 := Tryd.sizeOf66
  v75 := Tryd.zeroValue66
  t127 := Tryd.underlying126
  a127 := Tryd.isAgg126
  z127 := Tryd.sizeOf126
  v127 := Tryd.zeroValue126
  t168 := Tryd.underlying135
  a168 := Tryd.isAgg135
  z168 := Tryd.sizeOf135
  v168 := Tryd.zeroValue135
  t210 := Tryd.underlying165
  a210 := Tryd.isAgg165
  z210 := Tryd.sizeOf165
  v210 := Tryd.zeroValue165
  g16 := by kernel_rfl
  t5 := Tryd.underlying5
  a5 := Tryd.isAgg5
  z5 := Tryd.sizeOf5
  v5 := Tryd.zeroValue5
  t80 := Tryd.underlying99
  a80 := Tryd.isAgg99
  z80 := Tryd.sizeOf99
  v80 := Tryd.zeroValue99
  i0 := by kernel_rfl
  i3 := by kernel_rfl
  i4 := by kernel_rfl
  i5 := by kernel_rfl
  i9 := by kernel_rfl
  i37 := by kernel_rfl
  i75 := by kernel_rfl
  i80 := by kernel_rfl
  i127 := by kernel_rfl
  i168 := by kernel_rfl
  i210 := by kernel_rfl
  m16 := by kernel_rfl }
def Tryd.laysC172_ren : Go.Shelf.Ren := ⟨fun | 172 => 29 | 244 => 44 | 245 => 45 | 247 => 72 | 279 => 73 | 280 => 74 | 281 => 75 | 282 => 76 | 287 => 98 | 316 => 99 | 171 => 20 | 205 => 100 | 321 => 129 | 322 => 130 | 243 => 41 | 246 => 68 | 283 => 90 | 284 => 91 | 285 => 92 | 286 => 93 | 129 => 120 | 317 => 119 | 318 => 121 | 319 => 122 | 320 => 123 | 337 => 136 | 338 => 137 | n => n, fun | 9 => 9 | 3 => 3 | 75 => 66 | 76 => 67 | 4 => 4 | 5 => 5 | 167 => 132 | 37 => 43 | 0 => 0 | 85 => 133 | 2 => 2 | 168 => 135 | 53 => 70 | 175 => 161 | 46 => 106 | 210 => 165 | 127 => 126 | 145 => 190 | 143 => 188 | 21 => 21 | 171 => 152 | 173 => 155 | 212 => 184 | 51 => 54 | 20 => 20 | 213 => 185 | 232 => 204 | 233 => 205 | 80 => 99 | n => n, fun | 15 => 0 | 16 => 1 | 17 => 2 | 18 => 6 | 19 => 7 | n => n⟩
theorem Tryd.laysC172 : Go.Proofs.LaysC.n172 Tryd.prog Tryd.laysC172_ren := {
  mixed := by kernel_rfl
  f129 := Tryd.func120.trans (congrArg some (by kernel_rfl))
  f171 := Tryd.func20.trans (congrArg some (by kernel_rfl))
  f172 := Tryd.func29.trans (congrArg some (by kernel_rfl))
  f205 := Tryd.func100.trans (congrArg some (by kernel_rfl))
  f243 := Tryd.func41.trans (congrArg some (by kernel_rfl))
  f244 := Tryd.func44.trans (congrArg some (by kernel_rfl))
  f245 := Tryd.func45.trans (congrArg some (by kernel_rfl))
  f246 := Tryd.func68.trans (congrArg some (by kernel_rfl))
  f247 := Tryd.func72.trans (congrArg some (by kernel_rfl))
  f279 := Tryd.func73.trans (congrArg some (by kernel_rfl))
  f280 := Tryd.func74.trans (congrArg some (by kernel_rfl))
  f281 := Tryd.func75.trans (congrArg some (by kernel_rfl))
  f282 := Tryd.func76.trans (congrArg some (by kernel_rfl))
  f283 := Tryd.func90.trans (congrArg some (by kernel_rfl))
  f284 := Tryd.func91.trans (congrArg some (by kernel_rfl))
  f285 := Tryd.func92.trans (congrArg some (by kernel_rfl))
  f286 := Tryd.func93.trans (congrArg some (by kernel_rfl))
  f287 := Tryd.func98.trans (congrArg some (by kernel_rfl))
  f316 := Tryd.func99.trans (congrArg some (by kernel_rfl))
  f317 := Tryd.func119.trans (congrArg some (by kernel_rfl))
  f318 := Tryd.func121.trans (congrArg some (by kernel_rfl))
  f319 := Tryd.func122.trans (congrArg some (by kernel_rfl))
  f320 := Tryd.func123.trans (congrArg some (by kernel_rfl))
  f321 := Tryd.func129.trans (congrArg some (by kernel_rfl))
  f322 := Tryd.func130.trans (congrArg some (by kernel_rfl))
  f337 := Tryd.func136.trans (congrArg some (by kernel_rfl))
  f338 := Tryd.func137.trans (congrArg some (by kernel_rfl))
  t0 := Tryd.underlying0
  a0 := Tryd.isAgg0
  z0 := Tryd.sizeOf0
  v0 := Tryd.zeroValue0
  t2 := Tryd.underlying2
  a2 := Tryd.isAgg2
  z2 := Tryd.sizeOf2
  v2 := Tryd.zeroValue2
  t3 := Tryd.underlying3
  a3 := Tryd.isAgg3
  z3 := Tryd.sizeOf3
  v3 := Tryd.zeroValue3
  t4 := Tryd.underlying4
  a4 := Tryd.isAgg4
  z4 := Tryd.sizeOf4
  v4 := Tryd.zeroValue4
  t5 := Tryd.underlying5
  a5 := Tryd.isAgg5
  z5 := Tryd.sizeOf5
  v5 := Tryd.zeroValue5
  t9 := Tryd.underlying9
  a9 := Tryd.isAgg9
  z9 := Tryd.sizeOf9
  v9 := Tryd.zeroValue9
  t20 := Tryd.underlying20
  a20 := Tryd.isAgg20
  z20 := Tryd.sizeOf20
  v20 := Tryd.zeroValue20
  t21 := Tryd.underlying21
  a21 := Tryd.isAgg21
  z21 := Tryd.sizeOf21
  v21 := Tryd.zeroValue21
  t37 := Tryd.underlying43
  a37 := Tryd.isAgg43
  z37 := Tryd.sizeOf43
  v37 := Tryd.zeroValue43
  t46 := Tryd.underlying106
  a46 := Tryd.isAgg106
  z46 := Tryd.sizeOf106
  v46 := Tryd.zeroValue106
  t51 := Tryd.underlying54
  a51 := Tryd.isAgg54
  z51 := Tryd.sizeOf54
  v51 := Tryd.zeroValue54
  t53 := Tryd.underlying70
  a53 := Tryd.isAgg70
  z53 := Tryd.sizeOf70
  v53 := Tryd.zeroValue70
  t75 := Tryd.underlying66
  a75 := Tryd.isAgg66
  z75 := Tryd.sizeOf66
  v75 := Tryd.zeroValue66
  t76 := Tryd.underlying67
  a76 := Tryd.isAgg67
  z76 := Tryd.sizeOf67
  v76 := Tryd.zeroValue67
  t85 := Tryd.underlying133
  a85 := Tryd.isAgg133
  z85 := Tryd.sizeOf133
  v85 := Tryd.zeroValue133
  t127 := Tryd.underlying126
  a127 := Tryd.isAgg126
  z127 := Tryd.sizeOf126
  v127 := Tryd.zeroValue126
  t143 := Tryd.underlying188
  a143 := Tryd.isAgg188
  z143 := Tryd.sizeOf188
  v143 := Tryd.zeroValue188
  t145 := Tryd.underlying190
  a145 := Tryd.isAgg190
  z145 := Tryd.sizeOf190
  v145 := Tryd.zeroValue190
  t167 := Tryd.underlying132
  a167 := Tryd.isAgg132
  z167 := Tryd.sizeOf132
  v167 := Tryd.zeroValue132
  t168 := Tryd.underlying135
  a168 := Tryd.isAgg135
  z168 := Tryd.sizeOf135
  v168 := Tryd.zeroValue135
  t171 := Tryd.underlying152
  a171 := Tryd.isAgg152
  z171 := Tryd.sizeOf152
  v171 := Tryd.zeroValue152
  t173 := Tryd.underlying155
  a173 := Tryd.isAgg155
  z173 := Tryd.sizeOf155
  v173 := Tryd.zeroValue155
  t175 := Tryd.underlying161
  a175 := Tryd.isAgg161
  z175 := Tryd.sizeOf161
  v175 := Tryd.zeroValue161
  t210 := Tryd.underlying165
  a210 := Tryd.isAgg165
  z210 := Tryd.sizeOf165
  v210 := Tryd.zeroValue165
  t212 := Tryd.underlying184
  a212 := Tryd.isAgg184
  z212 := Tryd.sizeOf184
  v212 := Tryd.zeroValue184
  t213 := Tryd.underlying185
  a213 := Tryd.isAgg185
  z213 := Tryd.sizeOf185
  t232 := Tryd.underlying204
  a232 := Tryd.isAgg204
  z232 := Tryd.sizeOf204
  v232 := Tryd.zeroValue204
  t233 := Tryd.underlying205
  a233 := Tryd.isAgg205
  z233 := Tryd.sizeOf205
  v233 := Tryd.zeroValue205
  g15 := by kernel_rfl
  g16 := by kernel_rfl
  g17 := by kernel_rfl
  g18 := by kernel_rfl
  g19 := by kernel_rfl
  t80 := Tryd.underlying99
  a80 := Tryd.isAgg99
  z80 := Tryd.sizeOf99
  v80 := Tryd.zeroValue99
  i0 := by kernel_rfl
  i2 := by kernel_rfl
  i3 := by kernel_rfl
  i4 := by kernel_rfl
  i5 := by kernel_rfl
  i9 := by kernel_rfl
  i20 := by kernel_rfl
  i21 := by kernel_rfl
  i37 := by kernel_rfl
  i46 := by kernel_rfl
  i51 := by kernel_rfl
  i53 := by kernel_rfl
  i75 := by kernel_rfl
  i76 := by kernel_rfl
  i80 := by kernel_rfl
  i85 := by kernel_rfl
  i127 := by kernel_rfl
  i143 := by kernel_rfl
  i145 := by kernel_rfl
  i167 := by kernel_rfl
  i168 := by kernel_rfl
  i171 := by kernel_rfl
  i173 := by kernel_rfl
  i175 := by kernel_rfl
  i210 := by kernel_rfl
  i212 := by kernel_rfl
  i232 := by kernel_rfl
  i233 := by kernel_rfl
  m15 := by kernel_rfl
  m16 := by kernel_rfl
  m17 := by kernel_rfl
  m18 := by kernel_rfl
  m19 := by kernel_rfl
  c0 := by kernel_rfl
  c2 := by kernel_rfl
  c3 := by kernel_rfl
  c4 := by kernel_rfl
  c5 := by kernel_rfl
  c9 := by kernel_rfl
  c20 := by kernel_rfl
  c21 := by kernel_rfl
  c37 := by kernel_rfl
  c46 := by kernel_rfl
  c51 := by kernel_rfl
  c53 := by kernel_rfl
  c75 := by kernel_rfl
  c76 := by kernel_rfl
  c80 := by kernel_rfl
  c85 := by kernel_rfl
  c127 := by kernel_rfl
  c143 := by kernel_rfl
  c145 := by kernel_rfl
  c167 := by kernel_rfl
  c168 := by kernel_rfl
  c171 := by kernel_rfl
  c173 := by kernel_rfl
  c175 := by kernel_rfl
  c210 := by kernel_rfl
  c212 := by kernel_rfl
  c213 := by kernel_rfl
  c232 := by kernel_rfl
  c233 := by kernel_rfl }
end Go.Proofs
open Go Nm Go.Proofs Go.RowKit
namespace LI
abbrev ii (n:Int):NV:= .int .i64 (.lit n)
structure WForm where
 w:Nat
 d:Nat×Nat
 a:Nat×Nat
 b:Nat×Nat
 s:Nat×Nat
 n:Nat×Nat
 c:Nat×Nat
 sg:Bool
 tn:Bool
def WForm.cells (f:WForm):List NV:= [.int .u32 (.lit (f.w:Int)),ii f.d.1,ii f.d.2,ii f.a.1,ii f.a.2,ii f.b.1,ii f.b.2,ii f.s.1,ii f.s.2,ii f.n.1,ii f.n.2,ii f.c.1,ii f.c.2,.bool f.sg,.bool f.tn]
def aG:List WForm:= [
 ⟨3531603968,(0,5),(0,0),(0,0),(21,2),(5,16),(0,0),false,false⟩,
 ⟨4068474880,(0,5),(0,0),(0,0),(21,2),(5,16),(0,0),false,false⟩,
 ⟨2332033024,(0,5),(5,5),(16,5),(0,0),(0,0),(0,0),false,false⟩,
 ⟨3405774848,(0,5),(5,5),(16,5),(0,0),(0,0),(0,0),false,false⟩,
 ⟨2600500224,(0,5),(5,5),(16,5),(0,0),(0,0),(0,0),false,false⟩,
 ⟨2315255808,(0,5),(5,5),(16,5),(0,0),(0,0),(0,0),false,false⟩,
 ⟨3942645791,(0,0),(5,5),(16,5),(0,0),(0,0),(0,0),false,false⟩,
 ⟨2594113504,(0,5),(0,0),(0,0),(0,0),(0,0),(12,4),false,true⟩,
 ⟨335544320,(0,0),(0,0),(0,0),(0,0),(0,26),(0,0),true,false⟩,
 ⟨1409286144,(0,0),(0,0),(0,0),(0,0),(5,19),(0,4),true,false⟩,
 ⟨3019898880,(0,0),(0,5),(0,0),(0,0),(5,19),(0,0),true,false⟩,
 ⟨3036676096,(0,0),(0,5),(0,0),(0,0),(5,19),(0,0),true,false⟩,
 ⟨4181721088,(0,5),(5,5),(0,0),(0,0),(10,12),(0,0),false,false⟩,
 ⟨4177526784,(0,5),(5,5),(0,0),(0,0),(10,12),(0,0),false,false⟩,
 ⟨3370122240,(0,5),(5,5),(0,0),(0,0),(0,0),(0,0),false,false⟩,
 ⟨3365927936,(0,5),(5,5),(0,0),(0,0),(0,0),(0,0),false,false⟩,
 ⟨3361700864,(0,5),(5,5),(0,0),(0,0),(0,0),(0,0),false,false⟩,
 ⟨3355474944,(0,5),(5,5),(0,0),(16,5),(0,0),(0,0),false,false⟩,
 ⟨3573758911,(0,0),(0,0),(0,0),(0,0),(0,0),(0,0),false,false⟩,
 ⟨3573758879,(0,0),(0,0),(0,0),(0,0),(0,0),(0,0),false,false⟩,
 ⟨3574299680,(0,0),(0,5),(0,0),(0,0),(0,0),(0,0),false,false⟩,
 ⟨3573751839,(0,0),(0,0),(0,0),(0,0),(0,0),(0,0),false,false⟩,
 ⟨3560964096,(0,0),(0,0),(0,0),(0,0),(0,0),(0,0),false,false⟩,
 ⟨3556769793,(0,0),(0,0),(0,0),(0,0),(0,0),(0,0),false,false⟩]
def aB:List (List Nat×List Nat):= [
 ([109,111,118,122], [68,78,83]),
 ([109,111,118,107], [68,78,83]),
 ([97,100,100], [68,65,66]),
 ([115,117,98], [68,65,66]),
 ([109,117,108], [68,65,66]),
 ([97,110,100], [68,65,66]),
 ([99,109,112], [65,66]),
 ([99,115,101,116], [68,67]),
 ([98], [78]),
 ([98,99], [67,78]),
 ([99,98,122], [65,78]),
 ([99,98,110,122], [65,78]),
 ([108,100,114], [68,65,78]),
 ([115,116,114], [68,65,78]),
 ([108,100,97,114], [68,65]),
 ([115,116,108,114], [68,65]),
 ([108,100,120,114], [68,65]),
 ([115,116,120,114], [83,68,65]),
 ([100,109,98], []),
 ([100,115,98], []),
 ([99,118,97,112], [65]),
 ([110,111,112], []),
 ([104,108,116], []),
 ([115,118,99], [])]
noncomputable def dQ (l:List (List NV)):List NV:=List.rec [] (fun a _ r=>iV a r fun t=>t) l
def gN:List (List NV):=aG.map WForm.cells
def er:List (List NV):=aB.map fun p=> [NV.str p.1,.str p.2]
theorem mixed:Tryd.prog.follows .mixedOrders=true:=by kernel_rfl
def eH:WForm:=⟨0,(0,0),(0,0),(0,0),(0,0),(0,0),(0,0),false,false⟩
def wu (n:Int):Option NV:=if 0<=n/\n<24 then (aG[n.toNat]?).map fun f=> .tup [.agg f.cells,.bool true] else some (.tup [.agg eH.cells,.bool false])
noncomputable def S3:bE:=ot 20 (qf 2) (ot 29 (ve 0 1 135) Ei)
theorem Eo:bi code S3 2000 23 [ii 0] (.tup [.agg (aG[0]'(by decide)).cells,.bool true])=true:=by kernel_rfl
theorem Em:bi code S3 2000 23 [ii 1] (.tup [.agg (aG[1]'(by decide)).cells,.bool true])=true:=by kernel_rfl
theorem El:bi code S3 2000 23 [ii 2] (.tup [.agg (aG[2]'(by decide)).cells,.bool true])=true:=by kernel_rfl
theorem Er:bi code S3 2000 23 [ii 3] (.tup [.agg (aG[3]'(by decide)).cells,.bool true])=true:=by kernel_rfl
theorem Ek:bi code S3 2000 23 [ii 4] (.tup [.agg (aG[4]'(by decide)).cells,.bool true])=true:=by kernel_rfl
theorem Et:bi code S3 2000 23 [ii 5] (.tup [.agg (aG[5]'(by decide)).cells,.bool true])=true:=by kernel_rfl
theorem Ej:bi code S3 2000 23 [ii 6] (.tup [.agg (aG[6]'(by decide)).cells,.bool true])=true:=by kernel_rfl
theorem Ez:bi code S3 2000 23 [ii 7] (.tup [.agg (aG[7]'(by decide)).cells,.bool true])=true:=by kernel_rfl
theorem Ey:bi code S3 2000 23 [ii 8] (.tup [.agg (aG[8]'(by decide)).cells,.bool true])=true:=by kernel_rfl
theorem En:bi code S3 2000 23 [ii 9] (.tup [.agg (aG[9]'(by decide)).cells,.bool true])=true:=by kernel_rfl
theorem D5:bi code S3 2000 23 [ii 10] (.tup [.agg (aG[10]'(by decide)).cells,.bool true])=true:=by kernel_rfl
theorem CW:bi code S3 2000 23 [ii 11] (.tup [.agg (aG[11]'(by decide)).cells,.bool true])=true:=by kernel_rfl
theorem DG:bi code S3 2000 23 [ii 12] (.tup [.agg (aG[12]'(by decide)).cells,.bool true])=true:=by kernel_rfl
theorem D2:bi code S3 2000 23 [ii 13] (.tup [.agg (aG[13]'(by decide)).cells,.bool true])=true:=by kernel_rfl
theorem DS:bi code S3 2000 23 [ii 14] (.tup [.agg (aG[14]'(by decide)).cells,.bool true])=true:=by kernel_rfl
theorem De:bi code S3 2000 23 [ii 15] (.tup [.agg (aG[15]'(by decide)).cells,.bool true])=true:=by kernel_rfl
theorem Dx:bi code S3 2000 23 [ii 16] (.tup [.agg (aG[16]'(by decide)).cells,.bool true])=true:=by kernel_rfl
theorem DT:bi code S3 2000 23 [ii 17] (.tup [.agg (aG[17]'(by decide)).cells,.bool true])=true:=by kernel_rfl
theorem DD:bi code S3 2000 23 [ii 18] (.tup [.agg (aG[18]'(by decide)).cells,.bool true])=true:=by kernel_rfl
theorem Dt:bi code S3 2000 23 [ii 19] (.tup [.agg (aG[19]'(by decide)).cells,.bool true])=true:=by kernel_rfl
theorem Dk:bi code S3 2000 23 [ii 20] (.tup [.agg (aG[20]'(by decide)).cells,.bool true])=true:=by kernel_rfl
theorem DK:bi code S3 2000 23 [ii 21] (.tup [.agg (aG[21]'(by decide)).cells,.bool true])=true:=by kernel_rfl
theorem C6:bi code S3 2000 23 [ii 22] (.tup [.agg (aG[22]'(by decide)).cells,.bool true])=true:=by kernel_rfl
theorem DV:bi code S3 2000 23 [ii 23] (.tup [.agg (aG[23]'(by decide)).cells,.bool true])=true:=by kernel_rfl
theorem Bu:bi code S3 2000 23 [.int .i64 (.le (-1))] (.tup [.agg eH.cells,.bool false])=true:=by kernel_rfl
theorem AP:bi code S3 2000 23 [.int .i64 (.ge 24)] (.tup [.agg eH.cells,.bool false])=true:=by kernel_rfl
noncomputable def S2:bE:=ot 23 (uw .i64 wu) S3
theorem tc:ip code S2 2000 39 [] (dQ gN) 0 24 15 24=true:=by kernel_rfl
theorem rq:ip code S2 2000 19 [] (dQ er) 0 24 2 24=true:=by kernel_rfl
noncomputable def S1:bE:=ot 39 (wj [] (dQ gN) 0 24 15 24) (ot 19 (wj [] (dQ er) 0 24 2 24) S2)
theorem kept:bi code S1 2000 8 [] (.bool true)=true:=by kernel_rfl
noncomputable def S0:bE:=B2 8 [] (.bool true) S1
section
variable [Val]
theorem Eg:cQ Tryd.prog S3:=gL (gL tv (vR Tryd.laysC172 (by kernel_rfl) (by kernel_rfl) (by kernel_rfl) (by kernel_rfl) (by decide) rfl (by decide) rfl)) (vC Tryd.laysM171 (by kernel_rfl) (by decide) rfl zA)
theorem zu (n:Int) (v:NV) (h:wu n=some v):∃x:SI,(∀ι,VR ι (.int .i64 x) (.int .i64 n))/\bi Tryd.prog S3 2000 23 [.int .i64 x] v=true:=by
 unfold wu at h
 split at h
 ·rename_i hn
  have hc:n=0∨n=1∨n=2∨n=3∨n=4∨n=5∨n=6∨n=7∨n=8∨n=9∨n=10∨n=11∨n=12∨n=13∨n=14∨n=15∨n=16∨n=17∨n=18∨n=19∨n=20∨n=21∨n=22∨n=23:=by omega
  rcases hc with rfl|rfl|rfl|rfl|rfl|rfl|rfl|rfl|rfl|rfl|rfl|rfl|rfl|rfl|rfl|rfl|rfl|rfl|rfl|rfl|rfl|rfl|rfl|rfl
  ·cases h;exact ⟨_,fun _=> .int _ _,aN.kept Eo⟩
  ·cases h;exact ⟨_,fun _=> .int _ _,aN.kept Em⟩
  ·cases h;exact ⟨_,fun _=> .int _ _,aN.kept El⟩
  ·cases h;exact ⟨_,fun _=> .int _ _,aN.kept Er⟩
  ·cases h;exact ⟨_,fun _=> .int _ _,aN.kept Ek⟩
  ·cases h;exact ⟨_,fun _=> .int _ _,aN.kept Et⟩
  ·cases h;exact ⟨_,fun _=> .int _ _,aN.kept Ej⟩
  ·cases h;exact ⟨_,fun _=> .int _ _,aN.kept Ez⟩
  ·cases h;exact ⟨_,fun _=> .int _ _,aN.kept Ey⟩
  ·cases h;exact ⟨_,fun _=> .int _ _,aN.kept En⟩
  ·cases h;exact ⟨_,fun _=> .int _ _,aN.kept D5⟩
  ·cases h;exact ⟨_,fun _=> .int _ _,aN.kept CW⟩
  ·cases h;exact ⟨_,fun _=> .int _ _,aN.kept DG⟩
  ·cases h;exact ⟨_,fun _=> .int _ _,aN.kept D2⟩
  ·cases h;exact ⟨_,fun _=> .int _ _,aN.kept DS⟩
  ·cases h;exact ⟨_,fun _=> .int _ _,aN.kept De⟩
  ·cases h;exact ⟨_,fun _=> .int _ _,aN.kept Dx⟩
  ·cases h;exact ⟨_,fun _=> .int _ _,aN.kept DT⟩
  ·cases h;exact ⟨_,fun _=> .int _ _,aN.kept DD⟩
  ·cases h;exact ⟨_,fun _=> .int _ _,aN.kept Dt⟩
  ·cases h;exact ⟨_,fun _=> .int _ _,aN.kept Dk⟩
  ·cases h;exact ⟨_,fun _=> .int _ _,aN.kept DK⟩
  ·cases h;exact ⟨_,fun _=> .int _ _,aN.kept C6⟩
  ·cases h;exact ⟨_,fun _=> .int _ _,aN.kept DV⟩
 ·rename_i hn
  cases h
  by_cases h0:n<=-1
  ·exact ⟨_,fun _=> .ile _ _ _ h0,aN.kept Bu⟩
  ·exact ⟨_,fun _=> .ige _ 24 _ (by omega),aN.kept AP⟩
theorem DF:cQ Tryd.prog S2:=gL Eg (xt mixed Tryd.codeOk Eg (enters_of Tryd.func23 (by kernel_rfl) rfl) zu)
theorem Eu:cQ Tryd.prog S1:=gL (gL DF (uP mixed Tryd.codeOk DF (aN.row rq) (enters_of Tryd.func19 (by kernel_rfl) rfl))) (uP mixed Tryd.codeOk DF (aN.row tc) (enters_of Tryd.func39 (by kernel_rfl) rfl))
theorem BA:cQ Tryd.prog S0:=wP mixed Tryd.codeOk Eu (aN.kept kept)
end
def Tb (m:NH):Prop:=m.get (D4.of 2)=some (.cells false ei)/\(∃t v,m.get (D4.of 0)=some (.cells false [.ifc t v]))/\(∃t v,m.get (D4.of 1)=some (.cells false [.ifc t v]))/\dC m (D4.of 2)/\dC m (D4.of 0)/\dC m (D4.of 1)
theorem Tb.chg {m m':NH} (h:Tb m) (hC:Chg [] m m'):Tb m':=by
 obtain ⟨h1,⟨t,v,h2⟩,⟨u,w,h3⟩,o1,o2,o3⟩:=h
 exact ⟨(hC.get o1 (by simp)).trans h1,⟨t,v,(hC.get o2 (by simp)).trans h2⟩,⟨u,w,(hC.get o3 (by simp)).trans h3⟩,hC.old o1,hC.old o2,hC.old o3⟩
theorem yO {m:NH} (h:Tb m) {n:Int} (h0:-9223372036854775808<=n) (h1:n<=9223372036854775807):c7 Tryd.prog S0 20 [ii n] m (.str (cW n)) m:=by
 refine c7.keptM ?_
 show cond (kU 2 m) (cond (g8 (.negSucc 9223372036854775807) n) (cond (g8 n (.ofNat 9223372036854775807)) (some (NV.str (cW n),m)) none) none) none=_
 have e:kU 2 m=true:=by unfold kU;rw[h.1];show cK (bc 1) ei ei=true;kernel_rfl
 rw[e,bD,bD,EF (show (Int.negSucc 9223372036854775807)<=n from h0),EF (show n<=Int.ofNat 9223372036854775807 from h1)]
 rfl
theorem eQ (m:NH) (n:Int) {v:NV} (h:wu n=some v):c7 Tryd.prog S0 23 [ii n] m v m:=by
 refine c7.keptM ?_
 show cond (eg .i64 .i64) (match wu n with|some v=>some (v,m)|none=>none) none=_
 rw[h];rfl
theorem vX (m:NH):∃v m',c7 Tryd.prog S0 39 [] m v m'/\Sl m' v 15 gN/\Chg [] m m':=by
 refine ⟨.slc m.next 0 24 15 24,m.add (.cells false (dQ gN)),c7.keptM ?_,⟨?_,Or.inr ⟨m.next,0,24,false,dQ gN, ?_,NH.get_add_same m _,eR m _, ?_, ?_⟩⟩,Chg.add m _⟩
 ·show cond (cK (bc 3) [] []) (m.new (.cells false (dQ gN)) fun id h=>some (NV.slc id 0 24 15 24,h)) none=_
  rw[NH.new_eq];rfl
 ·intro x hx
  obtain ⟨f,_,rfl⟩:=List.mem_map.1 hx
  rfl
 ·kernel_rfl
 ·decide+kernel
 ·kernel_rfl
theorem tL (m:NH):∃v m',c7 Tryd.prog S0 19 [] m v m'/\Sl m' v 2 er/\Chg [] m m':=by
 refine ⟨.slc m.next 0 24 2 24,m.add (.cells false (dQ er)),c7.keptM ?_,⟨?_,Or.inr ⟨m.next,0,24,false,dQ er, ?_,NH.get_add_same m _,eR m _, ?_, ?_⟩⟩,Chg.add m _⟩
 ·show cond (cK (bc 3) [] []) (m.new (.cells false (dQ er)) fun id h=>some (NV.slc id 0 24 2 24,h)) none=_
  rw[NH.new_eq];rfl
 ·intro x hx
  obtain ⟨f,_,rfl⟩:=List.mem_map.1 hx
  rfl
 ·kernel_rfl
 ·decide+kernel
 ·kernel_rfl
end LI
open Go Nm Go.Proofs
namespace LI
theorem lg (x:Int) {k:IntKind} {n:Nat} (hn:n<=62) {z:Int} (hz:x*(2 ^ n:Nat)=z) (h0:-9223372036854775808<=z) (h1:z<9223372036854775808):dP .num .shl (.int .i64 (.lit x)) (.int k (.lit (n:Int)))=some (.int .i64 (.lit z)):=by
 show xZ .i64 x (Int.ofNat n)=_
 show bJ .i64 (bz .i64 (mo x (.ofNat (Nat.pow 2 (mC .i64 n)))))=_
 rw[show mC .i64 n=n from by unfold mC;rw[show Nat.ble n (IntKind.bits .i64)=true from Nat.ble_eq_true_of_le (by show n<=64;omega)];rfl,eu,show x*Int.ofNat (Nat.pow 2 n)=z from hz,bg,show IntKind.i64.wrap z=z from by rw[IntKind.wrap_i64];omega,aM]
def aX (v:Int) (n:Nat):Bool:=decide (0<=v)&&decide (v<((2 ^ n:Nat):Int))
def bQ (v:Int) (n:Nat):Bool:=if n=0 then decide (v=0) else decide (-((2 ^ (n - 1):Nat):Int)<=v)&&decide (v<((2 ^ (n - 1):Nat):Int))
theorem mP (m:NH) (n:Nat) (hn:n<=32):c7 Tryd.prog S0 89 [ii 0,ii n] m (.tup [ii 0,ii n]) m:=by
 have h:∃v m',c7 Tryd.prog S0 89 [ii 0,ii n] m v m'/\v= .tup [ii 0,ii n]/\m'=m:=by
  refine WF.ex fun K hK=> ?_
  refine WF.of_wpG (fun _=>rfl) qr (L:= [(.a .e,ii n),(.e,ii 0)]) rfl ?_
  unfold y6
  simp (config:={maxSteps:=1000000}) (disch:=first|assumption|omega|(apply ao;omega)|(apply ai;assumption)|(simp only[bF]<;>omega)) only[go_sem,seval]
  refine hK _ _ ⟨?_,ba m⟩
  rw[show max (0:Int) (min (n:Int) (32 - max 0 (min 0 32)))=n by omega,show max (0:Int) (min 0 32)=0 by omega]
 obtain ⟨v,m',h,rfl,rfl⟩:=h
 exact h
theorem mX (m:NH) (n:Nat) (hn:n<=32):c7 Tryd.prog S0 42 [ii n,ii 0,ii 32] m (ii n) m:=by
 have h:∃v m',c7 Tryd.prog S0 42 [ii n,ii 0,ii 32] m v m'/\v=ii n/\m'=m:=by
  refine WF.ex fun K hK=> ?_
  refine WF.of_wpG (fun _=>rfl) qc (L:= [(.b .e,ii 32),(.a .e,ii 0),(.e,ii n)]) rfl ?_
  unfold Ah
  simp (config:={maxSteps:=1000000}) (disch:=first|assumption|omega|(apply ao;omega)|(apply ai;assumption)|(simp only[bF]<;>omega)) only[go_sem,seval]
  exact hK _ _ ⟨rfl,ba m⟩
 obtain ⟨v,m',h,rfl,rfl⟩:=h
 exact h
theorem fH {n:Nat} (hn:n<=32):1<=2 ^ n/\2 ^ n<=4294967296:=by
 have h1:0<2 ^ n:=Nat.pow_pos (by omega)
 have h2:2 ^ n<=2 ^ 32:=Nat.pow_le_pow_right (by omega) hn
 exact ⟨h1,h2⟩
theorem nF (m:NH) (v:Int) (n:Nat) (hn:n<=32):c7 Tryd.prog S0 65 [ii v,ii n] m (.bool (aX v n)) m:=by
 have h:∃u m',c7 Tryd.prog S0 65 [ii v,ii n] m u m'/\u= .bool (aX v n)/\m'=m:=by
  refine WF.ex fun K hK=> ?_
  refine WF.of_wpG (fun _=>rfl) qA (L:= [(.a .e,ii n),(.e,ii v)]) rfl ?_
  unfold zj
  obtain ⟨p1,p2⟩:=fH hn
  have hs:=lg 1 (k:= .i64) (n:=n) (by omega) (z:=((2 ^ n:Nat):Int)) (by omega) (by omega) (by omega)
  unfold aX at hK
  generalize 2 ^ n=p at p1 p2 hs hK
  by_cases h:0<=v
  ·simp (config:={maxSteps:=1000000}) (disch:=first|assumption|omega|(apply ao;omega)|(apply ai;assumption)|(simp only[bF]<;>omega)) only[go_sem,seval,(mP _ n hn).wf',hs,EF h]
   refine hK _ _ ⟨?_,ba m⟩
   simp[h]
  ·simp (config:={maxSteps:=1000000}) (disch:=first|assumption|omega|(apply ao;omega)|(apply ai;assumption)|(simp only[bF]<;>omega)) only[go_sem,seval,(mP _ n hn).wf',hs,EE h]
   refine hK _ _ ⟨?_,ba m⟩
   simp[h]
 obtain ⟨v,m',h,rfl,rfl⟩:=h
 exact h
theorem mT (m:NH) (v:Int) (n:Nat) (hn:n<=32):c7 Tryd.prog S0 24 [ii v,ii n] m (.bool (aX v n)) m:=by
 have h:∃u m',c7 Tryd.prog S0 24 [ii v,ii n] m u m'/\u= .bool (aX v n)/\m'=m:=by
  refine WF.ex fun K hK=> ?_
  refine WF.of_wpG (fun _=>rfl) qh (L:= [(.a .e,ii n),(.e,ii v)]) rfl ?_
  unfold Aq
  obtain ⟨p1,p2⟩:=fH hn
  have hs:=lg 1 (k:= .u64) (n:=n) (by omega) (z:=((2 ^ n:Nat):Int)) (by omega) (by omega) (by omega)
  have hm:(n:Int) % 18446744073709551616=n:=by omega
  unfold aX at hK
  generalize 2 ^ n=p at p1 p2 hs hK
  by_cases h:0<=v
  ·simp (config:={maxSteps:=1000000}) (disch:=first|assumption|omega|(apply ao;omega)|(apply ai;assumption)|(simp only[bF]<;>omega)) only[go_sem,seval,(mX _ n hn).wf',hm,hs,EF h]
   refine hK _ _ ⟨?_,ba m⟩
   simp[h]
  ·simp (config:={maxSteps:=1000000}) (disch:=first|assumption|omega|(apply ao;omega)|(apply ai;assumption)|(simp only[bF]<;>omega)) only[go_sem,seval,(mX _ n hn).wf',hm,hs,EE h]
   refine hK _ _ ⟨?_,ba m⟩
   simp[h]
 obtain ⟨v,m',h,rfl,rfl⟩:=h
 exact h
theorem zp (m:NH) (v:Int) (n:Nat) (hn:n<=32):c7 Tryd.prog S0 66 [ii v,ii n] m (.bool (bQ v n)) m:=by
 have h:∃u m',c7 Tryd.prog S0 66 [ii v,ii n] m u m'/\u= .bool (bQ v n)/\m'=m:=by
  refine WF.ex fun K hK=> ?_
  refine WF.of_wpG (fun _=>rfl) pY (L:= [(.a .e,ii n),(.e,ii v)]) rfl ?_
  unfold zb
  by_cases h0:n=0
  ·subst h0
   have hc:∀m,c7 Tryd.prog S0 89 [ii 0,ii 0] m (.tup [ii 0,ii 0]) m:=fun m=>mP m 0 hn
   simp (config:={maxSteps:=1000000}) (disch:=first|assumption|omega|(apply ao;omega)|(apply ai;assumption)|(simp only[bF]<;>omega)) only[go_sem,seval,(hc _).wf']
   refine hK _ _ ⟨?_,ba m⟩
   simp[bQ]
  ·obtain ⟨p1,p2⟩:=fH (n:=n - 1) (by omega)
   have e:((n:Int) - 1)=((n - 1:Nat):Int):=by omega
   have hs:=lg 1 (k:= .i64) (n:=n - 1) (by omega) (z:=((2 ^ (n - 1):Nat):Int)) (by omega) (by omega) (by omega)
   have ht:=lg (-1) (k:= .i64) (n:=n - 1) (by omega) (z:=-((2 ^ (n - 1):Nat):Int)) (by omega) (by omega) (by omega)
   rw[←e] at hs ht
   unfold bQ at hK
   rw[EC h0] at hK
   generalize 2 ^ (n - 1)=p at p1 p2 hs ht hK
   by_cases h:-(p:Int)<=v
   ·simp (config:={maxSteps:=1000000}) (disch:=first|assumption|omega|(apply ao;omega)|(apply ai;assumption)|(simp only[bF]<;>omega)) only[go_sem,seval,(mP _ n hn).wf',hs,ht,EF h]
    refine hK _ _ ⟨?_,ba m⟩
    simp[h]
   ·simp (config:={maxSteps:=1000000}) (disch:=first|assumption|omega|(apply ao;omega)|(apply ai;assumption)|(simp only[bF]<;>omega)) only[go_sem,seval,(mP _ n hn).wf',hs,ht,EE h]
    refine hK _ _ ⟨?_,ba m⟩
    simp[h]
 obtain ⟨v,m',h,rfl,rfl⟩:=h
 exact h
theorem Ak (m:NH) (v:Int) (n:Nat) (hn:n<=32):c7 Tryd.prog S0 25 [ii v,ii n] m (.bool (bQ v n)) m:=by
 have h:∃u m',c7 Tryd.prog S0 25 [ii v,ii n] m u m'/\u= .bool (bQ v n)/\m'=m:=by
  refine WF.ex fun K hK=> ?_
  refine WF.of_wpG (fun _=>rfl) qo (L:= [(.a .e,ii n),(.e,ii v)]) rfl ?_
  unfold zr
  by_cases h0:n=0
  ·subst h0
   have hc:∀m,c7 Tryd.prog S0 42 [ii 0,ii 0,ii 32] m (ii 0) m:=fun m=>mX m 0 hn
   simp (config:={maxSteps:=1000000}) (disch:=first|assumption|omega|(apply ao;omega)|(apply ai;assumption)|(simp only[bF]<;>omega)) only[go_sem,seval,(hc _).wf']
   refine hK _ _ ⟨?_,ba m⟩
   simp[bQ]
  ·obtain ⟨p1,p2⟩:=fH (n:=n - 1) (by omega)
   have e:((n:Int) - 1)=((n - 1:Nat):Int):=by omega
   have hs:=lg 1 (k:= .u64) (n:=n - 1) (by omega) (z:=((2 ^ (n - 1):Nat):Int)) (by omega) (by omega) (by omega)
   have hm:((n:Int) - 1) % 18446744073709551616=(n:Int) - 1:=by omega
   have ht:=lg (-1) (k:= .u64) (n:=n - 1) (by omega) (z:=-((2 ^ (n - 1):Nat):Int)) (by omega) (by omega) (by omega)
   rw[←e] at hs ht
   unfold bQ at hK
   rw[EC h0] at hK
   generalize 2 ^ (n - 1)=p at p1 p2 hs ht hK
   by_cases h:-(p:Int)<=v
   ·simp (config:={maxSteps:=1000000}) (disch:=first|assumption|omega|(apply ao;omega)|(apply ai;assumption)|(simp only[bF]<;>omega)) only[go_sem,seval,(mX _ n hn).wf',hm,hs,ht,EF h]
    refine hK _ _ ⟨?_,ba m⟩
    simp[h]
   ·simp (config:={maxSteps:=1000000}) (disch:=first|assumption|omega|(apply ao;omega)|(apply ai;assumption)|(simp only[bF]<;>omega)) only[go_sem,seval,(mX _ n hn).wf',hm,hs,ht,EE h]
    refine hK _ _ ⟨?_,ba m⟩
    simp[h]
 obtain ⟨v,m',h,rfl,rfl⟩:=h
 exact h
end LI
open Go Nm Go.Proofs
namespace LI
structure Ins where
 k:Int
 d:Int
 a:Int
 b:Int
 s:Int
 c:Int
 n:Int
def Ins.cells (i:Ins):List NV:= [ii i.k,ii i.d,ii i.a,ii i.b,ii i.s,ii i.c,ii i.n]
def aE (c:Int):Bool:=decide (c=0)||decide (c=1)||decide (c=11)||decide (c=10)
def aZ (f:WForm) (i:Ins):Bool:=aX i.d f.d.2&&aX i.a f.a.2&&aX i.b f.b.2&&aX i.s f.s.2
def cv (f:WForm) (i:Ins):Bool:=if f.sg then bQ i.n f.n.2 else aX i.n f.n.2
def cu (f:WForm) (i:Ins):Bool:=if 0<f.c.2 then aE i.c else decide (i.c=0)
def aU (f:WForm) (i:Ins):Bool:=cv f i&&aZ f i&&cu f i
theorem zF (m:NH) (c:Int):c7 Tryd.prog S0 67 [ii c] m (.bool (aE c)) m:=by
 have h:∃u m',c7 Tryd.prog S0 67 [ii c] m u m'/\u= .bool (aE c)/\m'=m:=by
  refine WF.ex fun K hK=> ?_
  refine WF.of_wpG (fun _=>rfl) ql (L:= [(.e,ii c)]) rfl ?_
  unfold zY
  unfold aE at hK
  by_cases h0:c=0
  ·subst h0;simp (config:={maxSteps:=1000000}) (disch:=first|assumption|omega|(apply ao;omega)|(apply ai;assumption)|(simp only[bF]<;>omega)) only[go_sem,seval];refine hK _ _ ⟨?_,ba m⟩;simp
  by_cases h1:c=1
  ·subst h1;simp (config:={maxSteps:=1000000}) (disch:=first|assumption|omega|(apply ao;omega)|(apply ai;assumption)|(simp only[bF]<;>omega)) only[go_sem,seval];refine hK _ _ ⟨?_,ba m⟩;simp
  by_cases h2:c=11
  ·subst h2;simp (config:={maxSteps:=1000000}) (disch:=first|assumption|omega|(apply ao;omega)|(apply ai;assumption)|(simp only[bF]<;>omega)) only[go_sem,seval];refine hK _ _ ⟨?_,ba m⟩;simp
  simp (config:={maxSteps:=1000000}) (disch:=first|assumption|omega|(apply ao;omega)|(apply ai;assumption)|(simp only[bF]<;>omega)) only[go_sem,seval,EE h0,EE h1,EE h2]
  refine hK _ _ ⟨?_,ba m⟩;simp[h0,h1,h2]
 obtain ⟨v,m',h,rfl,rfl⟩:=h
 exact h
set_option maxHeartbeats 8000000 in
set_option maxRecDepth 100000 in
theorem x8 (m:NH) (f:WForm) (i:Ins) (hd:f.d.2<=32) (ha:f.a.2<=32) (hb:f.b.2<=32) (hs:f.s.2<=32) (hn:f.n.2<=32):∃v m',c7 Tryd.prog S0 40 [.agg f.cells,.agg i.cells] m v m'/\v= .bool (aU f i)/\Chg [] m m':=by
 refine WF.ex fun K hK=> ?_
 refine WF.of_wpG (fun _=>rfl) qB (L:= [(.a .e,.agg i.cells),(.e,.agg f.cells)]) rfl ?_
 obtain ⟨k,d,a,b,s,c,n⟩:=i
 obtain ⟨w,⟨d0,d1⟩,⟨a0,a1⟩,⟨b0,b1⟩,⟨s0,s1⟩,⟨n0,n1⟩,⟨c0,c1⟩,sg,tn⟩:=f
 unfold Ap
 simp only[WForm.cells,Ins.cells]
 simp only[aU,cv,aZ,cu] at hK
 dsimp only at hd ha hb hs hn
 have hfn:∀m,_:=fun m=>nF m n n1 hn
 have hgn:∀m,_:=fun m=>zp m n n1 hn
 have hfd:∀m,_:=fun m=>nF m d d1 hd
 have hfa:∀m,_:=fun m=>nF m a a1 ha
 have hfb:∀m,_:=fun m=>nF m b b1 hb
 have hfs:∀m,_:=fun m=>nF m s s1 hs
 have hcc:∀m,_:=fun m=>zF m c
 cases sg with
 |true=>
  cases h5:bQ n n1 with
  |false=>
   cases h1:aX d d1 with
   |false=>
    simp (config:={maxSteps:=1000000}) (disch:=first|assumption|omega|(apply ao;omega)|(apply ai;assumption)|(simp only[bF]<;>omega)) only[go_sem,seval,(hfn _).wf',(hgn _).wf',(hfd _).wf',(hfa _).wf',(hfb _).wf',(hfs _).wf',(hcc _).wf',h5,h1]
    refine hK _ _ ⟨?_,aQ rfl⟩
    simp[h5,h1]
   |true=>
    cases h2:aX a a1 with
    |false=>
     simp (config:={maxSteps:=1000000}) (disch:=first|assumption|omega|(apply ao;omega)|(apply ai;assumption)|(simp only[bF]<;>omega)) only[go_sem,seval,(hfn _).wf',(hgn _).wf',(hfd _).wf',(hfa _).wf',(hfb _).wf',(hfs _).wf',(hcc _).wf',h5,h1,h2]
     refine hK _ _ ⟨?_,aQ rfl⟩
     simp[h5,h1,h2]
    |true=>
     cases h3:aX b b1 with
     |false=>
      simp (config:={maxSteps:=1000000}) (disch:=first|assumption|omega|(apply ao;omega)|(apply ai;assumption)|(simp only[bF]<;>omega)) only[go_sem,seval,(hfn _).wf',(hgn _).wf',(hfd _).wf',(hfa _).wf',(hfb _).wf',(hfs _).wf',(hcc _).wf',h5,h1,h2,h3]
      refine hK _ _ ⟨?_,aQ rfl⟩
      simp[h5,h1,h2,h3]
     |true=>
      cases h4:aX s s1 with
      |false=>
       simp (config:={maxSteps:=1000000}) (disch:=first|assumption|omega|(apply ao;omega)|(apply ai;assumption)|(simp only[bF]<;>omega)) only[go_sem,seval,(hfn _).wf',(hgn _).wf',(hfd _).wf',(hfa _).wf',(hfb _).wf',(hfs _).wf',(hcc _).wf',h5,h1,h2,h3,h4]
       refine hK _ _ ⟨?_,aQ rfl⟩
       simp[h5,h1,h2,h3,h4]
      |true=>
       simp (config:={maxSteps:=1000000}) (disch:=first|assumption|omega|(apply ao;omega)|(apply ai;assumption)|(simp only[bF]<;>omega)) only[go_sem,seval,(hfn _).wf',(hgn _).wf',(hfd _).wf',(hfa _).wf',(hfb _).wf',(hfs _).wf',(hcc _).wf',h5,h1,h2,h3,h4]
       refine hK _ _ ⟨?_,aQ rfl⟩
       simp[h5,h1,h2,h3,h4]
  |true=>
   cases h1:aX d d1 with
   |false=>
    simp (config:={maxSteps:=1000000}) (disch:=first|assumption|omega|(apply ao;omega)|(apply ai;assumption)|(simp only[bF]<;>omega)) only[go_sem,seval,(hfn _).wf',(hgn _).wf',(hfd _).wf',(hfa _).wf',(hfb _).wf',(hfs _).wf',(hcc _).wf',h5,h1]
    refine hK _ _ ⟨?_,aQ rfl⟩
    simp[h5,h1]
   |true=>
    cases h2:aX a a1 with
    |false=>
     simp (config:={maxSteps:=1000000}) (disch:=first|assumption|omega|(apply ao;omega)|(apply ai;assumption)|(simp only[bF]<;>omega)) only[go_sem,seval,(hfn _).wf',(hgn _).wf',(hfd _).wf',(hfa _).wf',(hfb _).wf',(hfs _).wf',(hcc _).wf',h5,h1,h2]
     refine hK _ _ ⟨?_,aQ rfl⟩
     simp[h5,h1,h2]
    |true=>
     cases h3:aX b b1 with
     |false=>
      simp (config:={maxSteps:=1000000}) (disch:=first|assumption|omega|(apply ao;omega)|(apply ai;assumption)|(simp only[bF]<;>omega)) only[go_sem,seval,(hfn _).wf',(hgn _).wf',(hfd _).wf',(hfa _).wf',(hfb _).wf',(hfs _).wf',(hcc _).wf',h5,h1,h2,h3]
      refine hK _ _ ⟨?_,aQ rfl⟩
      simp[h5,h1,h2,h3]
     |true=>
      cases h4:aX s s1 with
      |false=>
       simp (config:={maxSteps:=1000000}) (disch:=first|assumption|omega|(apply ao;omega)|(apply ai;assumption)|(simp only[bF]<;>omega)) only[go_sem,seval,(hfn _).wf',(hgn _).wf',(hfd _).wf',(hfa _).wf',(hfb _).wf',(hfs _).wf',(hcc _).wf',h5,h1,h2,h3,h4]
       refine hK _ _ ⟨?_,aQ rfl⟩
       simp[h5,h1,h2,h3,h4]
      |true=>
       by_cases h6:0<c1
       ·cases h9:aE c with
        |false=>
         simp (config:={maxSteps:=1000000}) (disch:=first|assumption|omega|(apply ao;omega)|(apply ai;assumption)|(simp only[bF]<;>omega)) only[go_sem,seval,(hfn _).wf',(hgn _).wf',(hfd _).wf',(hfa _).wf',(hfb _).wf',(hfs _).wf',(hcc _).wf',h5,h1,h2,h3,h4,h6,h9]
         refine hK _ _ ⟨?_,aQ rfl⟩
         simp[h5,h1,h2,h3,h4,h6,h9]
        |true=>
         simp (config:={maxSteps:=1000000}) (disch:=first|assumption|omega|(apply ao;omega)|(apply ai;assumption)|(simp only[bF]<;>omega)) only[go_sem,seval,(hfn _).wf',(hgn _).wf',(hfd _).wf',(hfa _).wf',(hfb _).wf',(hfs _).wf',(hcc _).wf',h5,h1,h2,h3,h4,h6,h9]
         refine hK _ _ ⟨?_,aQ rfl⟩
         simp[h5,h1,h2,h3,h4,h6,h9]
       ·have h7:¬0<c1:=h6
        simp (config:={maxSteps:=1000000}) (disch:=first|assumption|omega|(apply ao;omega)|(apply ai;assumption)|(simp only[bF]<;>omega)) only[go_sem,seval,(hfn _).wf',(hgn _).wf',(hfd _).wf',(hfa _).wf',(hfb _).wf',(hfs _).wf',(hcc _).wf',h5,h1,h2,h3,h4]
        refine hK _ _ ⟨?_,aQ rfl⟩
        have h8:c1=0:=by omega
        simp[h5,h1,h2,h3,h4,h8]
 |false=>
  cases h5:aX n n1 with
  |false=>
   cases h1:aX d d1 with
   |false=>
    simp (config:={maxSteps:=1000000}) (disch:=first|assumption|omega|(apply ao;omega)|(apply ai;assumption)|(simp only[bF]<;>omega)) only[go_sem,seval,(hfn _).wf',(hgn _).wf',(hfd _).wf',(hfa _).wf',(hfb _).wf',(hfs _).wf',(hcc _).wf',h5,h1]
    refine hK _ _ ⟨?_,aQ rfl⟩
    simp[h5,h1]
   |true=>
    cases h2:aX a a1 with
    |false=>
     simp (config:={maxSteps:=1000000}) (disch:=first|assumption|omega|(apply ao;omega)|(apply ai;assumption)|(simp only[bF]<;>omega)) only[go_sem,seval,(hfn _).wf',(hgn _).wf',(hfd _).wf',(hfa _).wf',(hfb _).wf',(hfs _).wf',(hcc _).wf',h5,h1,h2]
     refine hK _ _ ⟨?_,aQ rfl⟩
     simp[h5,h1,h2]
    |true=>
     cases h3:aX b b1 with
     |false=>
      simp (config:={maxSteps:=1000000}) (disch:=first|assumption|omega|(apply ao;omega)|(apply ai;assumption)|(simp only[bF]<;>omega)) only[go_sem,seval,(hfn _).wf',(hgn _).wf',(hfd _).wf',(hfa _).wf',(hfb _).wf',(hfs _).wf',(hcc _).wf',h5,h1,h2,h3]
      refine hK _ _ ⟨?_,aQ rfl⟩
      simp[h5,h1,h2,h3]
     |true=>
      cases h4:aX s s1 with
      |false=>
       simp (config:={maxSteps:=1000000}) (disch:=first|assumption|omega|(apply ao;omega)|(apply ai;assumption)|(simp only[bF]<;>omega)) only[go_sem,seval,(hfn _).wf',(hgn _).wf',(hfd _).wf',(hfa _).wf',(hfb _).wf',(hfs _).wf',(hcc _).wf',h5,h1,h2,h3,h4]
       refine hK _ _ ⟨?_,aQ rfl⟩
       simp[h5,h1,h2,h3,h4]
      |true=>
       simp (config:={maxSteps:=1000000}) (disch:=first|assumption|omega|(apply ao;omega)|(apply ai;assumption)|(simp only[bF]<;>omega)) only[go_sem,seval,(hfn _).wf',(hgn _).wf',(hfd _).wf',(hfa _).wf',(hfb _).wf',(hfs _).wf',(hcc _).wf',h5,h1,h2,h3,h4]
       refine hK _ _ ⟨?_,aQ rfl⟩
       simp[h5,h1,h2,h3,h4]
  |true=>
   cases h1:aX d d1 with
   |false=>
    simp (config:={maxSteps:=1000000}) (disch:=first|assumption|omega|(apply ao;omega)|(apply ai;assumption)|(simp only[bF]<;>omega)) only[go_sem,seval,(hfn _).wf',(hgn _).wf',(hfd _).wf',(hfa _).wf',(hfb _).wf',(hfs _).wf',(hcc _).wf',h5,h1]
    refine hK _ _ ⟨?_,aQ rfl⟩
    simp[h5,h1]
   |true=>
    cases h2:aX a a1 with
    |false=>
     simp (config:={maxSteps:=1000000}) (disch:=first|assumption|omega|(apply ao;omega)|(apply ai;assumption)|(simp only[bF]<;>omega)) only[go_sem,seval,(hfn _).wf',(hgn _).wf',(hfd _).wf',(hfa _).wf',(hfb _).wf',(hfs _).wf',(hcc _).wf',h5,h1,h2]
     refine hK _ _ ⟨?_,aQ rfl⟩
     simp[h5,h1,h2]
    |true=>
     cases h3:aX b b1 with
     |false=>
      simp (config:={maxSteps:=1000000}) (disch:=first|assumption|omega|(apply ao;omega)|(apply ai;assumption)|(simp only[bF]<;>omega)) only[go_sem,seval,(hfn _).wf',(hgn _).wf',(hfd _).wf',(hfa _).wf',(hfb _).wf',(hfs _).wf',(hcc _).wf',h5,h1,h2,h3]
      refine hK _ _ ⟨?_,aQ rfl⟩
      simp[h5,h1,h2,h3]
     |true=>
      cases h4:aX s s1 with
      |false=>
       simp (config:={maxSteps:=1000000}) (disch:=first|assumption|omega|(apply ao;omega)|(apply ai;assumption)|(simp only[bF]<;>omega)) only[go_sem,seval,(hfn _).wf',(hgn _).wf',(hfd _).wf',(hfa _).wf',(hfb _).wf',(hfs _).wf',(hcc _).wf',h5,h1,h2,h3,h4]
       refine hK _ _ ⟨?_,aQ rfl⟩
       simp[h5,h1,h2,h3,h4]
      |true=>
       by_cases h6:0<c1
       ·cases h9:aE c with
        |false=>
         simp (config:={maxSteps:=1000000}) (disch:=first|assumption|omega|(apply ao;omega)|(apply ai;assumption)|(simp only[bF]<;>omega)) only[go_sem,seval,(hfn _).wf',(hgn _).wf',(hfd _).wf',(hfa _).wf',(hfb _).wf',(hfs _).wf',(hcc _).wf',h5,h1,h2,h3,h4,h6,h9]
         refine hK _ _ ⟨?_,aQ rfl⟩
         simp[h5,h1,h2,h3,h4,h6,h9]
        |true=>
         simp (config:={maxSteps:=1000000}) (disch:=first|assumption|omega|(apply ao;omega)|(apply ai;assumption)|(simp only[bF]<;>omega)) only[go_sem,seval,(hfn _).wf',(hgn _).wf',(hfd _).wf',(hfa _).wf',(hfb _).wf',(hfs _).wf',(hcc _).wf',h5,h1,h2,h3,h4,h6,h9]
         refine hK _ _ ⟨?_,aQ rfl⟩
         simp[h5,h1,h2,h3,h4,h6,h9]
       ·have h7:¬0<c1:=h6
        simp (config:={maxSteps:=1000000}) (disch:=first|assumption|omega|(apply ao;omega)|(apply ai;assumption)|(simp only[bF]<;>omega)) only[go_sem,seval,(hfn _).wf',(hgn _).wf',(hfd _).wf',(hfa _).wf',(hfb _).wf',(hfs _).wf',(hcc _).wf',h5,h1,h2,h3,h4]
        refine hK _ _ ⟨?_,aQ rfl⟩
        have h8:c1=0:=by omega
        simp[h5,h1,h2,h3,h4,h8]
end LI
open Go Nm Go.Proofs
namespace LI
def aJ (i:Ins):Bool:=decide (0<=i.k)&&decide (i.k<24)&&(match aG[i.k.toNat]? with|some f=>aU f i|none=>false)
theorem jN:∀f∈aG,f.d.2<=32/\f.a.2<=32/\f.b.2<=32/\f.s.2<=32/\f.n.2<=32:=by decide
theorem wy (m:NH) (i:Ins):∃v m',c7 Tryd.prog S0 18 [.agg i.cells] m v m'/\v= .bool (aJ i)/\Chg [] m m':=by
 refine WF.ex fun K hK=> ?_
 refine WF.of_wpG (fun _=>rfl) qC (L:= [(.e,.agg i.cells)]) rfl ?_
 obtain ⟨k,d,a,b,s,c,n⟩:=i
 unfold zf
 simp only[Ins.cells]
 generalize hm0:hp [(AK.n 0,NO.cells true [ii k,ii d,ii a,ii b,ii s,ii c,ii n])] 1 m=m0
 obtain ⟨v,m1,h1,hS,hC⟩:=vX m0
 have g0:m0.get (na m 0)=some (.cells true [ii k,ii d,ii a,ii b,ii s,ii c,ii n]):=by rw[←hm0];exact lw
 have o0:dC m0 (na m 0):=by rw[←hm0];exact ao (by omega)
 have g1:=(hC.get o0 (by simp)).trans g0
 have hC0:Chg [] m m0:=by rw[←hm0];exact aQ rfl
 have hl:(gN.length:Int)=24:=rfl
 rw[←hm0] at h1
 by_cases h0:0<=k
 ·by_cases h2:k<24
  ·obtain ⟨j,rfl⟩:=EH h0
   have hj:j<24:=by omega
   have hjf:j<aG.length:=hj
   obtain ⟨id,off,w,cc,a1,a2,a3,a4,a5⟩:=hS.at j (by show j<24;exact hj)
   have e5:gN[j]'(by show j<24;exact hj)=(aG[j]'hjf).cells:=by simp[gN]
   rw[e5] at a5
   obtain ⟨q1,q2,q3,q4,q5⟩:=jN _ (List.getElem_mem hjf)
   obtain ⟨u,m2,h3,hu,hC2⟩:=x8 m1 (aG[j]'hjf) ⟨j,d,a,b,s,c,n⟩ q1 q2 q3 q4 q5
   subst hu
   have g2:=(hC2.get (hC.old o0) (by simp)).trans g1
   have a2':=(hC2.get a3 (by simp)).trans a2
   simp only[Ins.cells] at h3
   generalize hf:aG[j]'hjf=f at *
   simp (config:={maxSteps:=1000000}) (disch:=first|assumption|omega|(apply ao;omega)|(apply ai;assumption)|(simp only[bF]<;>omega)) only[go_sem,seval,h1.wf',g1,hS.len,hl,EF h0,EF h2,a1,a2,a5,h3.wf',g2,a2',hS.same]
   refine hK _ _ ⟨?_,(hC0.trans hC (by simp)).trans hC2 (by simp)⟩
   have hq:aG[j]? =some f:=by rw[List.getElem?_eq_getElem hjf,hf]
   simp[aJ,h2,hq]
  ·simp (config:={maxSteps:=1000000}) (disch:=first|assumption|omega|(apply ao;omega)|(apply ai;assumption)|(simp only[bF]<;>omega)) only[go_sem,seval,h1.wf',g1,hS.len,hl,EF h0,EE h2]
   refine hK _ _ ⟨?_,hC0.trans hC (by simp)⟩
   simp[aJ,h2]
 ·simp (config:={maxSteps:=1000000}) (disch:=first|assumption|omega|(apply ao;omega)|(apply ai;assumption)|(simp only[bF]<;>omega)) only[go_sem,seval,h1.wf',g1,EE h0]
  refine hK _ _ ⟨?_,hC0.trans hC (by simp)⟩
  simp[aJ,h0]
end LI
open Go Nm Go.Proofs
namespace LI
set_option maxHeartbeats 8000000 in
set_option maxRecDepth 100000 in
theorem rF (m:NH) (f:WForm) (k d a b s c n:Int) (hfo:wu k=some (.tup [.agg f.cells,.bool true])) (hd:f.d.2<=32) (ha:f.a.2<=32) (hb:f.b.2<=32) (hs:f.s.2<=32) (hn:f.n.2<=32):∃v m',c7 Tryd.prog S0 11 [.agg [ii k,ii d,ii a,ii b,ii s,ii c,ii n]] m v m'/\v= .bool (aU f ⟨k,d,a,b,s,c,n⟩)/\Chg [] m m':=by
 refine WF.ex fun K hK=> ?_
 refine WF.of_wpG (fun _=>rfl) mj (L:= [(.e,.agg [ii k,ii d,ii a,ii b,ii s,ii c,ii n])]) rfl ?_
 obtain ⟨w,⟨d0,d1⟩,⟨a0,a1⟩,⟨b0,b1⟩,⟨s0,s1⟩,⟨n0,n1⟩,⟨c0,c1⟩,sg,tn⟩:=f
 unfold wU
 simp only[WForm.cells] at hfo
 simp only[aU,cv,aZ,cu] at hK
 dsimp only at hd ha hb hs hn
 have hfn:∀m,_:=fun m=>mT m n n1 hn
 have hgn:∀m,_:=fun m=>Ak m n n1 hn
 have hfd:∀m,_:=fun m=>mT m d d1 hd
 have hfa:∀m,_:=fun m=>mT m a a1 ha
 have hfb:∀m,_:=fun m=>mT m b b1 hb
 have hfs:∀m,_:=fun m=>mT m s s1 hs
 cases h1:aX d d1 with
 |false=>
  simp (config:={maxSteps:=1000000}) (disch:=first|assumption|omega|(apply ao;omega)|(apply ai;assumption)|(simp only[bF]<;>omega)) only[go_sem,seval,(eQ _ _ hfo).wf',(hfn _).wf',(hgn _).wf',(hfd _).wf',(hfa _).wf',(hfb _).wf',(hfs _).wf',h1]
  refine hK _ _ ⟨?_,aQ rfl⟩
  simp[h1]
 |true=>
  cases h2:aX a a1 with
  |false=>
   simp (config:={maxSteps:=1000000}) (disch:=first|assumption|omega|(apply ao;omega)|(apply ai;assumption)|(simp only[bF]<;>omega)) only[go_sem,seval,(eQ _ _ hfo).wf',(hfn _).wf',(hgn _).wf',(hfd _).wf',(hfa _).wf',(hfb _).wf',(hfs _).wf',h1,h2]
   refine hK _ _ ⟨?_,aQ rfl⟩
   simp[h1,h2]
  |true=>
   cases h3:aX b b1 with
   |false=>
    simp (config:={maxSteps:=1000000}) (disch:=first|assumption|omega|(apply ao;omega)|(apply ai;assumption)|(simp only[bF]<;>omega)) only[go_sem,seval,(eQ _ _ hfo).wf',(hfn _).wf',(hgn _).wf',(hfd _).wf',(hfa _).wf',(hfb _).wf',(hfs _).wf',h1,h2,h3]
    refine hK _ _ ⟨?_,aQ rfl⟩
    simp[h1,h2,h3]
   |true=>
    cases h4:aX s s1 with
    |false=>
     simp (config:={maxSteps:=1000000}) (disch:=first|assumption|omega|(apply ao;omega)|(apply ai;assumption)|(simp only[bF]<;>omega)) only[go_sem,seval,(eQ _ _ hfo).wf',(hfn _).wf',(hgn _).wf',(hfd _).wf',(hfa _).wf',(hfb _).wf',(hfs _).wf',h1,h2,h3,h4]
     refine hK _ _ ⟨?_,aQ rfl⟩
     simp[h1,h2,h3,h4]
    |true=>
     cases sg with
     |true=>
      cases h5:bQ n n1 with
      |false=>
       simp (config:={maxSteps:=1000000}) (disch:=first|assumption|omega|(apply ao;omega)|(apply ai;assumption)|(simp only[bF]<;>omega)) only[go_sem,seval,(eQ _ _ hfo).wf',(hfn _).wf',(hgn _).wf',(hfd _).wf',(hfa _).wf',(hfb _).wf',(hfs _).wf',h1,h2,h3,h4,h5]
       refine hK _ _ ⟨?_,aQ rfl⟩
       simp[h1,h2,h3,h4,h5]
      |true=>
       by_cases h6:0<c1
       ·unfold aE at hK
        by_cases e0:c=0
        ·subst e0
         simp (config:={maxSteps:=1000000}) (disch:=first|assumption|omega|(apply ao;omega)|(apply ai;assumption)|(simp only[bF]<;>omega)) only[go_sem,seval,(eQ _ _ hfo).wf',(hfn _).wf',(hgn _).wf',(hfd _).wf',(hfa _).wf',(hfb _).wf',(hfs _).wf',h1,h2,h3,h4,h5]
         refine hK _ _ ⟨?_,aQ rfl⟩
         simp[h1,h2,h3,h4,h5,h6]
        by_cases e1:c=1
        ·subst e1
         simp (config:={maxSteps:=1000000}) (disch:=first|assumption|omega|(apply ao;omega)|(apply ai;assumption)|(simp only[bF]<;>omega)) only[go_sem,seval,(eQ _ _ hfo).wf',(hfn _).wf',(hgn _).wf',(hfd _).wf',(hfa _).wf',(hfb _).wf',(hfs _).wf',h1,h2,h3,h4,h5]
         refine hK _ _ ⟨?_,aQ rfl⟩
         simp[h1,h2,h3,h4,h5,h6]
        by_cases e2:c=11
        ·subst e2
         simp (config:={maxSteps:=1000000}) (disch:=first|assumption|omega|(apply ao;omega)|(apply ai;assumption)|(simp only[bF]<;>omega)) only[go_sem,seval,(eQ _ _ hfo).wf',(hfn _).wf',(hgn _).wf',(hfd _).wf',(hfa _).wf',(hfb _).wf',(hfs _).wf',h1,h2,h3,h4,h5]
         refine hK _ _ ⟨?_,aQ rfl⟩
         simp[h1,h2,h3,h4,h5,h6]
        simp (config:={maxSteps:=1000000}) (disch:=first|assumption|omega|(apply ao;omega)|(apply ai;assumption)|(simp only[bF]<;>omega)) only[go_sem,seval,(eQ _ _ hfo).wf',(hfn _).wf',(hgn _).wf',(hfd _).wf',(hfa _).wf',(hfb _).wf',(hfs _).wf',h1,h2,h3,h4,h5,EE e0,EE e1,EE e2]
        refine hK _ _ ⟨?_,aQ rfl⟩
        simp[h1,h2,h3,h4,h5,h6,e0,e1,e2]
       ·have h8:c1=0:=by omega
        simp (config:={maxSteps:=1000000}) (disch:=first|assumption|omega|(apply ao;omega)|(apply ai;assumption)|(simp only[bF]<;>omega)) only[go_sem,seval,(eQ _ _ hfo).wf',(hfn _).wf',(hgn _).wf',(hfd _).wf',(hfa _).wf',(hfb _).wf',(hfs _).wf',h1,h2,h3,h4,h5]
        refine hK _ _ ⟨?_,aQ rfl⟩
        simp[h1,h2,h3,h4,h5,h6,h8]
     |false=>
      cases h5:aX n n1 with
      |false=>
       simp (config:={maxSteps:=1000000}) (disch:=first|assumption|omega|(apply ao;omega)|(apply ai;assumption)|(simp only[bF]<;>omega)) only[go_sem,seval,(eQ _ _ hfo).wf',(hfn _).wf',(hgn _).wf',(hfd _).wf',(hfa _).wf',(hfb _).wf',(hfs _).wf',h1,h2,h3,h4,h5]
       refine hK _ _ ⟨?_,aQ rfl⟩
       simp[h1,h2,h3,h4,h5]
      |true=>
       by_cases h6:0<c1
       ·unfold aE at hK
        by_cases e0:c=0
        ·subst e0
         simp (config:={maxSteps:=1000000}) (disch:=first|assumption|omega|(apply ao;omega)|(apply ai;assumption)|(simp only[bF]<;>omega)) only[go_sem,seval,(eQ _ _ hfo).wf',(hfn _).wf',(hgn _).wf',(hfd _).wf',(hfa _).wf',(hfb _).wf',(hfs _).wf',h1,h2,h3,h4,h5]
         refine hK _ _ ⟨?_,aQ rfl⟩
         simp[h1,h2,h3,h4,h5,h6]
        by_cases e1:c=1
        ·subst e1
         simp (config:={maxSteps:=1000000}) (disch:=first|assumption|omega|(apply ao;omega)|(apply ai;assumption)|(simp only[bF]<;>omega)) only[go_sem,seval,(eQ _ _ hfo).wf',(hfn _).wf',(hgn _).wf',(hfd _).wf',(hfa _).wf',(hfb _).wf',(hfs _).wf',h1,h2,h3,h4,h5]
         refine hK _ _ ⟨?_,aQ rfl⟩
         simp[h1,h2,h3,h4,h5,h6]
        by_cases e2:c=11
        ·subst e2
         simp (config:={maxSteps:=1000000}) (disch:=first|assumption|omega|(apply ao;omega)|(apply ai;assumption)|(simp only[bF]<;>omega)) only[go_sem,seval,(eQ _ _ hfo).wf',(hfn _).wf',(hgn _).wf',(hfd _).wf',(hfa _).wf',(hfb _).wf',(hfs _).wf',h1,h2,h3,h4,h5]
         refine hK _ _ ⟨?_,aQ rfl⟩
         simp[h1,h2,h3,h4,h5,h6]
        simp (config:={maxSteps:=1000000}) (disch:=first|assumption|omega|(apply ao;omega)|(apply ai;assumption)|(simp only[bF]<;>omega)) only[go_sem,seval,(eQ _ _ hfo).wf',(hfn _).wf',(hgn _).wf',(hfd _).wf',(hfa _).wf',(hfb _).wf',(hfs _).wf',h1,h2,h3,h4,h5,EE e0,EE e1,EE e2]
        refine hK _ _ ⟨?_,aQ rfl⟩
        simp[h1,h2,h3,h4,h5,h6,e0,e1,e2]
       ·have h8:c1=0:=by omega
        simp (config:={maxSteps:=1000000}) (disch:=first|assumption|omega|(apply ao;omega)|(apply ai;assumption)|(simp only[bF]<;>omega)) only[go_sem,seval,(eQ _ _ hfo).wf',(hfn _).wf',(hgn _).wf',(hfd _).wf',(hfa _).wf',(hfb _).wf',(hfs _).wf',h1,h2,h3,h4,h5]
        refine hK _ _ ⟨?_,aQ rfl⟩
        simp[h1,h2,h3,h4,h5,h6,h8]
theorem uo (m:NH) (i:Ins):∃v m',c7 Tryd.prog S0 11 [.agg i.cells] m v m'/\v= .bool (aJ i)/\Chg [] m m':=by
 obtain ⟨k,d,a,b,s,c,n⟩:=i
 by_cases hk:0<=k/\k<24
 ·obtain ⟨j,rfl⟩:=EH hk.1
  have hjf:j<aG.length:=by show j<24;omega
  have hq:aG[j]? =some (aG[j]'hjf):=List.getElem?_eq_getElem hjf
  obtain ⟨q1,q2,q3,q4,q5⟩:=jN _ (List.getElem_mem hjf)
  obtain ⟨v,m',h,hv,hC⟩:=rF m (aG[j]'hjf) j d a b s c n (by simp[wu,hk,hq]) q1 q2 q3 q4 q5
  exact ⟨v,m',h,by rw[hv];simp[aJ,hk.2,hq],hC⟩
 ·have hfo:wu k=some (.tup [.agg eH.cells,.bool false]):=by simp[wu,hk]
  simp only[eH,WForm.cells] at hfo
  refine WF.ex fun K hK=> ?_
  refine WF.of_wpG (fun _=>rfl) mj (L:= [(.e,.agg [ii k,ii d,ii a,ii b,ii s,ii c,ii n])]) rfl ?_
  unfold wU
  simp (config:={maxSteps:=1000000}) (disch:=first|assumption|omega|(apply ao;omega)|(apply ai;assumption)|(simp only[bF]<;>omega)) only[go_sem,seval,(eQ _ _ hfo).wf']
  refine hK _ _ ⟨?_,aQ rfl⟩
  have:¬(0<=k/\k<24):=hk
  simp only[aJ,NV.bool.injEq]
  by_cases h0:0<=k
  ·have:¬k<24:=fun q=>hk ⟨h0,q⟩
   simp[this]
  ·simp[h0]
end LI
open Go Nm Go.Proofs
namespace LI
abbrev u8 (c:Nat):NV:= .int .u8 (.lit (c:Int))
def ta (c:Nat):Nat:=if c=68 then 1 else if c=65 then 2 else if c=66 then 3 else if c=83 then 4 else if c=67 then 5 else 6
def Ins.num (i:Ins) (c:Nat):Int:=if c=68 then i.d else if c=65 then i.a else if c=66 then i.b else if c=83 then i.s else if c=67 then i.c else i.n
theorem uY (m:NH) (id:D4) (c:Nat) (hc:c<256):c7 Tryd.prog S0 21 [.ptr id 0,u8 c] m (.ptr id (ta c)) m:=by
 have h:∃u m',c7 Tryd.prog S0 21 [.ptr id 0,u8 c] m u m'/\u= .ptr id (ta c)/\m'=m:=by
  refine WF.ex fun K hK=> ?_
  refine WF.of_wpG (fun _=>rfl) pZ (L:= [(.a .e,u8 c),(.e,.ptr id 0)]) rfl ?_
  unfold zL
  unfold ta at hK
  by_cases h1:c=68
  ·subst h1;simp (config:={maxSteps:=1000000}) (disch:=first|assumption|omega|(apply ao;omega)|(apply ai;assumption)|(simp only[bF]<;>omega)) only[go_sem,seval];exact hK _ _ ⟨rfl,ba m⟩
  by_cases h2:c=65
  ·subst h2;simp (config:={maxSteps:=1000000}) (disch:=first|assumption|omega|(apply ao;omega)|(apply ai;assumption)|(simp only[bF]<;>omega)) only[go_sem,seval];exact hK _ _ ⟨rfl,ba m⟩
  by_cases h3:c=66
  ·subst h3;simp (config:={maxSteps:=1000000}) (disch:=first|assumption|omega|(apply ao;omega)|(apply ai;assumption)|(simp only[bF]<;>omega)) only[go_sem,seval];exact hK _ _ ⟨rfl,ba m⟩
  by_cases h4:c=83
  ·subst h4;simp (config:={maxSteps:=1000000}) (disch:=first|assumption|omega|(apply ao;omega)|(apply ai;assumption)|(simp only[bF]<;>omega)) only[go_sem,seval];exact hK _ _ ⟨rfl,ba m⟩
  by_cases h5:c=67
  ·subst h5;simp (config:={maxSteps:=1000000}) (disch:=first|assumption|omega|(apply ao;omega)|(apply ai;assumption)|(simp only[bF]<;>omega)) only[go_sem,seval];exact hK _ _ ⟨rfl,ba m⟩
  simp (config:={maxSteps:=1000000}) (disch:=first|assumption|omega|(apply ao;omega)|(apply ai;assumption)|(simp only[bF]<;>omega)) only[go_sem,seval]
  refine hK _ _ ⟨?_,ba m⟩
  simp[h1,h2,h3,h4,h5]
 obtain ⟨v,m',h,rfl,rfl⟩:=h
 exact h
theorem mK {i:Ins} (h:aJ i=true) (c:Nat):-4294967296<=i.num c/\i.num c<=4294967296:=by
 unfold aJ at h
 rw[Bool.and_eq_true,Bool.and_eq_true] at h
 obtain ⟨_,h⟩:=h
 cases hf:aG[i.k.toNat]? with
 |none=>rw[hf] at h;cases h
 |some f=>
  rw[hf] at h
  obtain ⟨q1,q2,q3,q4,q5⟩:=jN f (List.mem_of_getElem? hf)
  simp only[aU,Bool.and_eq_true,aZ,cv,cu,aX,decide_eq_true_eq] at h
  obtain ⟨⟨hn,⟨⟨hd,ha⟩,hb⟩,hs⟩,hc⟩:=h
  have p1:=fH q1;have p2:=fH q2;have p3:=fH q3;have p4:=fH q4;have p5:=fH q5
  have hnn:-4294967296<=i.n/\i.n<=4294967296:=by
   split at hn
   ·unfold bQ at hn
    split at hn
    ·have:=of_decide_eq_true hn;omega
    ·rw[Bool.and_eq_true,decide_eq_true_eq,decide_eq_true_eq] at hn
     have p6:=fH (n:=f.n.2 - 1) (by omega)
     omega
   ·simp only[Bool.and_eq_true,decide_eq_true_eq] at hn;omega
  have hcc:0<=i.c/\i.c<=11:=by
   split at hc
   ·unfold aE at hc
    simp only[Bool.or_eq_true,decide_eq_true_eq] at hc
    omega
   ·have:=of_decide_eq_true hc;omega
  unfold Ins.num
  split
  ·omega
  split
  ·omega
  split
  ·omega
  split
  ·omega
  split
  ·omega
  exact hnn
theorem mU:∀(k u:Nat) (acc:List Nat),(fG k u acc).length<=k+acc.length:=by
 intro k
 induction k with
 |zero=>intro u acc;show acc.length<=_;omega
 |succ k ih=>
  intro u acc
  rw[fE]
  split
  ·simp;omega
  ·have:=ih (u / 10) ((48+u % 10)::acc);simp at this ⊢;omega
theorem kY (n:Int):(cW n).length<=21:=by
 cases n with
 |ofNat m=>have:=mU 20 m [];show (fG 20 m []).length<=21;simp at this;omega
 |negSucc m=>have:=mU 20 (m+1) [];show (45::fG 20 (m+1) []).length<=21;simp at this ⊢;omega
noncomputable def eD (i:Ins) (l:List Nat):List Nat:=l.flatMap fun c=>32::cW (i.num c)
noncomputable def dV (i:Ins):List Nat:=if aJ i then (match aB[i.k.toNat]? with|some p=>p.1++eD i p.2|none=> []) else []
theorem ft (i:Ins):eD i []= []:=rfl
theorem dp (i:Ins) (c:Nat) (l:List Nat):eD i (c::l)=(32::cW (i.num c))++eD i l:=rfl
theorem rG (i:Ins) (l:List Nat):(eD i l).length<=22*l.length:=by
 induction l with
 |nil=>rw[ft];simp
 |cons c l ih=>
  have:=kY (i.num c)
  rw[dp,List.length_append,List.length_cons,List.length_cons]
  omega
theorem pM (i:Ins) (l:List Nat) (c:Nat):eD i (l++ [c])=eD i l++(32::cW (i.num c)):=by
 induction l with
 |nil=>rw[List.nil_append,dp,ft];simp
 |cons d l ih=>rw[List.cons_append,dp,ih,dp];simp
theorem rO:∀p∈aB,p.1.length<=4/\1<=p.1.length/\p.2.length<=3/\∀c∈p.2,c<256:=by decide
end LI
open Go Nm Go.Proofs
namespace LI
set_option maxRecDepth 100000 in
set_option maxHeartbeats 4000000 in
theorem t6 (m:NH) (hT:Tb m) (i:Ins):∃v m',c7 Tryd.prog S0 9 [.agg i.cells] m v m'/\v= .str (dV i)/\Chg [] m m':=by
 refine WF.ex fun K hK=> ?_
 refine WF.of_wpG (fun _=>rfl) uH (L:= [(.e,.agg i.cells)]) rfl ?_
 have hic:i.cells= [ii i.k,ii i.d,ii i.a,ii i.b,ii i.s,ii i.c,ii i.n]:=rfl
 rw[hic]
 unfold C7
 generalize hm0:hp [(AK.n 0,NO.cells true [ii i.k,ii i.d,ii i.a,ii i.b,ii i.s,ii i.c,ii i.n])] 1 m=m0
 have g0:m0.get (na m 0)=some (.cells true [ii i.k,ii i.d,ii i.a,ii i.b,ii i.s,ii i.c,ii i.n]):=by rw[←hm0];exact lw
 have o0:dC m0 (na m 0):=by rw[←hm0];exact ao (by omega)
 have hC0:Chg [] m m0:=by rw[←hm0];exact aQ rfl
 obtain ⟨v,m1,h1,hv,hC1⟩:=wy m0 i
 subst hv
 rw[hic] at h1
 rw[←hm0] at h1
 cases hr:aJ i with
 |false=>
  simp (config:={maxSteps:=1000000}) (disch:=first|assumption|omega|(apply ao;omega)|(apply ai;assumption)|(simp only[bF]<;>omega)) only[go_sem,seval,h1.wf',hr]
  refine hK _ _ ⟨?_,hC0.trans hC1 (by simp)⟩
  simp[dV,hr]
 |true=>
  have hk:0<=i.k/\i.k<24:=by simp only[aJ,Bool.and_eq_true,decide_eq_true_eq] at hr;exact hr.1
  obtain ⟨j,hj⟩:=EH hk.1
  have hjs:j<aB.length:=by show j<24;omega
  have g1:=(hC1.get o0 (by simp)).trans g0
  have o1:=hC1.old o0
  have hrw:=ba m1
  obtain ⟨v2,m2,h2,hS,hC2⟩:=tL (m1.add (.cells true [.str [],.str []]))
  have gx:(m1.add (.cells true [.str [],.str []])).get m1.next=some (.cells true [.str [],.str []]):=NH.get_add_same m1 _
  have ox:dC (m1.add (.cells true [.str [],.str []])) m1.next:=eR m1 _
  have hCX:Chg [] m1 (m1.add (.cells true [.str [],.str []])):=Chg.add m1 _
  have g2x:=(hC2.get ox (by simp)).trans gx
  have g2:=(hC2.get (hCX.old o1) (by simp)).trans ((hCX.get o1 (by simp)).trans g1)
  have ox2:=hC2.old ox
  have o2:=hC2.old (hCX.old o1)
  obtain ⟨id,off,w,cc,a1,a2,a3,a4,a5⟩:=hS.at j hjs
  have e5:er[j]'hjs= [.str (aB[j]'hjs).1,.str (aB[j]'hjs).2]:=by simp[er]
  rw[e5] at a5
  obtain ⟨q1,q2,q3,q4⟩:=rO _ (List.getElem_mem hjs)
  generalize hp:aB[j]'hjs=p at *
  obtain ⟨p1,p2⟩:=p
  dsimp only at a5 q1 q2 q3 q4
  have hl:(er.length:Int)=24:=rfl
  rw[hj] at g1 g2 h1 hm0
  simp (config:={maxSteps:=1000000}) (disch:=first|assumption|omega|(apply ao;omega)|(apply ai;assumption)|(simp only[bF]<;>omega)) only[go_sem,seval,h1.wf',hr,hj,g1,h2.wf,g2,g2x,a1,a2,a5,hS.same,hl]
  generalize hM:Nm.hp [(AK.o m1.next,NO.cells true [NV.str p1,NV.str p2])] 0 m2=M
  have hCM:Chg [m1.next] m2 M:=by rw[←hM];exact (oV _ _ _).weak (by simp[n7])
  have hne:na m 0≠m1.next:=fun e=>by have:=o1;rw[e] at this;exact Nat.lt_irrefl _ this
  have gMi:M.get (na m 0)=some (.cells true [ii ↑j,ii i.d,ii i.a,ii i.b,ii i.s,ii i.c,ii i.n]):=(hCM.get o2 (by simpa using hne)).trans g2
  have gMx:M.get m1.next=some (.cells true [.str p1,.str p2]):=by rw[←hM];simp (config:={maxSteps:=1000000}) (disch:=first|assumption|omega|(apply ao;omega)|(apply ai;assumption)|(simp only[bF]<;>omega)) only[go_sem,seval]
  have hCC:Chg [] m M:=((((hC0.trans hC1 (by simp)).trans hCX (by simp)).trans hC2 (by simp)).trans hCM (by
   intro id hid ho
   simp only[List.mem_singleton] at hid
   subst hid
   exact EB ((hC0.trans hC1 (by simp)).next) (Nat.not_le_of_lt ho)))
  have hTM:=hT.chg hCC
  have hcell:∀c, [ii ↑j,ii i.d,ii i.a,ii i.b,ii i.s,ii i.c,ii i.n][ta c]? =some (ii (i.num c)):=by
   intro c
   unfold ta Ins.num
   split
   ·rfl
   split
   ·rfl
   split
   ·rfl
   split
   ·rfl
   split
   ·rfl
   rfl
  refine W.loop (fun k d=>∃(t':Tm) (q:Nat),d=⟨t', [],none,M⟩/\NT.get (.a .e) t'=some (.ptr (na m 0) 0)/\NT.get (.c .e) t'=some (.ptr m1.next 0)/\NT.get (.f .e) t'=some (.str (p1++eD i (p2.take q)))/\NT.get (.b (.f .e)) t'=some (ii p2.length)/\NT.get (.c (.f .e)) t'=some (ii q)/\q+k=p2.length) ?_ p2.length _ ⟨_,0,rfl,by simp only[go_sem,seval],by simp only[go_sem,seval],by simp only[go_sem,seval];simp[ft],by simp only[go_sem,seval],by simp only[go_sem,seval]<;>rfl,by omega⟩
  rintro k d ⟨t',q,rfl,t1,t2,t3,t4,t5,hqk⟩
  apply nz
  unfold sC
  change wp _ _ _ _ ⟨aK [] t', [],none,M⟩ _
  have hlq:(eD i (p2.take q)).length<=66:=by
   have:=rG i (p2.take q)
   have:=List.length_take_le q p2
   omega
  by_cases hi:q<p2.length
  ·have hb:p2[q]? =some (p2[q]'hi):=List.getElem?_eq_getElem hi
   have hc:=q4 _ (List.getElem_mem hi)
   have htk:p2.take (q+1)=p2.take q++ [p2[q]'hi]:=by rw[List.take_add_one,hb];rfl
   generalize p2[q]'hi=c at *
   obtain ⟨b1,b2⟩:=mK hr c
   have hlc:=kY (i.num c)
   have hnum:=uY M (na m 0) c hc
   have hito:=yO hTM (n:=i.num c) (by omega) (by omega)
   simp (config:={maxSteps:=1000000}) (disch:=first|assumption|omega|(apply ao;omega)|(apply ai;assumption)|(simp only[bF]<;>omega)) only[go_sem,seval,t1,t2,t3,t4,t5,gMi,gMx,hb,hnum.wf',hcell c,hito.wf']
   refine ⟨k - 1,by omega,_,q+1,rfl, ?_, ?_, ?_, ?_, ?_,by omega⟩
   ·simp (config:={maxSteps:=1000000}) (disch:=first|assumption|omega|(apply ao;omega)|(apply ai;assumption)|(simp only[bF]<;>omega)) only[go_sem,seval,t1]
   ·simp (config:={maxSteps:=1000000}) (disch:=first|assumption|omega|(apply ao;omega)|(apply ai;assumption)|(simp only[bF]<;>omega)) only[go_sem,seval,t2]
   ·simp (config:={maxSteps:=1000000}) (disch:=first|assumption|omega|(apply ao;omega)|(apply ai;assumption)|(simp only[bF]<;>omega)) only[go_sem,seval]
    rw[htk,pM,List.append_assoc]
   ·simp (config:={maxSteps:=1000000}) (disch:=first|assumption|omega|(apply ao;omega)|(apply ai;assumption)|(simp only[bF]<;>omega)) only[go_sem,seval,t4]
   ·simp (config:={maxSteps:=1000000}) (disch:=first|assumption|omega|(apply ao;omega)|(apply ai;assumption)|(simp only[bF]<;>omega)) only[go_sem,seval]<;>rfl
  ·have e:q=p2.length:=by omega
   subst e
   simp (config:={maxSteps:=1000000}) (disch:=first|assumption|omega|(apply ao;omega)|(apply ai;assumption)|(simp only[bF]<;>omega)) only[go_sem,seval,t1,t2,t3,t4,t5]
   refine hK _ _ ⟨?_,hCC⟩
   have hq:aB[j]? =some (p1,p2):=by rw[List.getElem?_eq_getElem hjs,hp]
   rw[List.take_length]
   simp[dV,hr,hj,hq]
end LI
open Go Nm Go.Proofs
namespace LI
end LI
open Go Nm Go.Proofs
namespace LI
end LI
open Go Nm Go.Proofs
namespace LI
end LI
open Go Nm Go.Proofs
namespace LI
end LI
open Go Nm Go.Proofs
namespace LI
end LI
open Go Nm Go.Proofs
namespace LI
end LI
open Go Nm Go.Proofs
namespace LI
def dO (c:Nat):List Nat->List (List Nat)
 | []=> [[]]
 |x::l=>if x=c then []::dO c l else (match dO c l with|p::ps=>(x::p)::ps| []=> [[x]])
theorem gg (c x:Nat) (l:List Nat):dO c (x::l)=if x=c then []::dO c l else (match dO c l with|p::ps=>(x::p)::ps| []=> [[x]]):=rfl
end LI
open Go Nm Go.Proofs
namespace LI
theorem one {a b:D4} (h:a∈ [b]):a=b:=by simpa using h
section
variable {l:List (AK×NO)} {k j:Nat} {m M:NH} {id:D4} {o:NO} {S:List D4}
theorem CU (h:hp l k m=M) (hs:n7 l=S):Chg S m M:=by rw[←h];exact aQ hs
theorem Bo (h:hp l k m=M) (hj:j<k):dC M (na m j):=by rw[←h];exact ao hj
theorem B6 (h:hp l k m=M):M.get (na m j)=iU j l (m.get (na m j)):=by rw[←h];exact lw
end
end LI
open Go Nm Go.Proofs
namespace LI
end LI
open Go Nm Go.Proofs
namespace LI
def Ins.set (i:Ins) (c:Nat) (v:Int):Ins:=if c=68 then {i with d:=v} else if c=65 then {i with a:=v} else if c=66 then {i with b:=v} else if c=83 then {i with s:=v} else if c=67 then {i with c:=v} else {i with n:=v}
noncomputable def ni:List (List Nat)->List Nat->Ins->Option Ins
 |p::ps,c::cs,i=>match lc p with| .ok v=>ni ps cs (i.set c v)|_=>none
 |_,_,i=>some i
theorem pH (p:List Nat) (ps:List (List Nat)) (c:Nat) (cs:List Nat) (i:Ins):ni (p::ps) (c::cs) i=match lc p with| .ok v=>ni ps cs (i.set c v)|_=>none:=rfl
def cT (k:Int):Ins:=⟨k,0,0,0,0,0,0⟩
end LI
open Go Nm Go.Proofs
namespace LI
theorem uv {c:Nat}:∀{p:List Nat},c∉p->dO c p= [p]:=by
 intro p
 induction p with
 |nil=>intro _;rfl
 |cons x p ih=>
  intro h
  have hx:¬x=c:=fun e=>h (e▸List.mem_cons_self ..)
  rw[gg,EC hx,ih fun q=>h (List.mem_cons_of_mem _ q)]
theorem tV {c:Nat} {r:List Nat}:∀{p:List Nat},c∉p->dO c (p++c::r)=p::dO c r:=by
 intro p
 induction p with
 |nil=>intro _;rw[List.nil_append,gg,ED rfl]
 |cons x p ih=>
  intro h
  have hx:¬x=c:=fun e=>h (e▸List.mem_cons_self ..)
  rw[List.cons_append,gg,EC hx,ih fun q=>h (List.mem_cons_of_mem _ q)]
theorem vf:∀(k u:Nat) (acc:List Nat),32∉acc->32∉fG k u acc:=by
 intro k
 induction k with
 |zero=>intro u acc h;exact h
 |succ k ih=>
  intro u acc h
  rw[fE]
  split
  ·simp only[List.mem_cons,not_or];exact ⟨by omega,h⟩
  ·refine ih _ _ ?_
   simp only[List.mem_cons,not_or];exact ⟨by omega,h⟩
theorem xR (n:Int):32∉cW n:=by
 cases n with
 |ofNat m=>exact vf 20 m [] (by simp)
 |negSucc m=>
  show 32∉45::fG 20 (m+1) []
  simp only[List.mem_cons,not_or]
  exact ⟨by omega,vf 20 _ [] (by simp)⟩
theorem pA (i:Ins):∀(l p:List Nat),32∉p->dO 32 (p++eD i l)=p::l.map fun c=>cW (i.num c):=by
 intro l
 induction l with
 |nil=>intro p h;rw[ft,List.append_nil,uv h];rfl
 |cons c l ih=>
  intro p h
  rw[dp,List.cons_append,tV h,ih _ (xR _)];rfl
theorem qO (i:Ins):∀(l:List Nat) (j:Ins),(∀c∈l,-4294967296<=i.num c/\i.num c<=4294967296)->ni (l.map fun c=>cW (i.num c)) l j=some (l.foldl (fun j c=>j.set c (i.num c)) j):=by
 intro l
 induction l with
 |nil=>intro j _;rfl
 |cons c l ih=>
  intro j h
  obtain ⟨h0,h1⟩:=h c (List.mem_cons_self ..)
  rw[List.map_cons,pH,qV h0 h1]
  exact ih _ fun d hd=>h d (List.mem_cons_of_mem _ hd)
theorem uA:∀p∈aB,32∉p.1:=by decide
theorem qQ:∀a<24,∀b<24,(aB[a]?).map (·.1)=(aB[b]?).map (·.1)->a=b:=by decide+kernel
theorem yM (i:Ins) (hr:aJ i=true):∃k,∃hk:k<aB.length,i.k=(k:Int)/\(aB[k].2).foldl (fun j c=>j.set c (i.num c)) (cT k)=i:=by
 have hk:0<=i.k/\i.k<24:=by simp only[aJ,Bool.and_eq_true,decide_eq_true_eq] at hr;exact hr.1
 obtain ⟨k,d,a,b,s,c,n⟩:=i
 have hc:k=0∨k=1∨k=2∨k=3∨k=4∨k=5∨k=6∨k=7∨k=8∨k=9∨k=10∨k=11∨k=12∨k=13∨k=14∨k=15∨k=16∨k=17∨k=18∨k=19∨k=20∨k=21∨k=22∨k=23:=by
  have h0:=hk.1;have h1:=hk.2;dsimp only at h0 h1;omega
 rcases hc with rfl|rfl|rfl|rfl|rfl|rfl|rfl|rfl|rfl|rfl|rfl|rfl|rfl|rfl|rfl|rfl|rfl|rfl|rfl|rfl|rfl|rfl|rfl|rfl
 ·refine ⟨0,by decide,rfl, ?_⟩
  simp[aJ,aG,aU,aZ,cv,cu,aX,bQ,aE] at hr
  simp[aB,Ins.set,Ins.num,cT]
  omega
 ·refine ⟨1,by decide,rfl, ?_⟩
  simp[aJ,aG,aU,aZ,cv,cu,aX,bQ,aE] at hr
  simp[aB,Ins.set,Ins.num,cT]
  omega
 ·refine ⟨2,by decide,rfl, ?_⟩
  simp[aJ,aG,aU,aZ,cv,cu,aX,bQ,aE] at hr
  simp[aB,Ins.set,Ins.num,cT]
  omega
 ·refine ⟨3,by decide,rfl, ?_⟩
  simp[aJ,aG,aU,aZ,cv,cu,aX,bQ,aE] at hr
  simp[aB,Ins.set,Ins.num,cT]
  omega
 ·refine ⟨4,by decide,rfl, ?_⟩
  simp[aJ,aG,aU,aZ,cv,cu,aX,bQ,aE] at hr
  simp[aB,Ins.set,Ins.num,cT]
  omega
 ·refine ⟨5,by decide,rfl, ?_⟩
  simp[aJ,aG,aU,aZ,cv,cu,aX,bQ,aE] at hr
  simp[aB,Ins.set,Ins.num,cT]
  omega
 ·refine ⟨6,by decide,rfl, ?_⟩
  simp[aJ,aG,aU,aZ,cv,cu,aX,bQ,aE] at hr
  simp[aB,Ins.set,Ins.num,cT]
  omega
 ·refine ⟨7,by decide,rfl, ?_⟩
  simp[aJ,aG,aU,aZ,cv,cu,aX,bQ,aE] at hr
  simp[aB,Ins.set,Ins.num,cT]
  omega
 ·refine ⟨8,by decide,rfl, ?_⟩
  simp[aJ,aG,aU,aZ,cv,cu,aX,bQ,aE] at hr
  simp[aB,Ins.set,Ins.num,cT]
  omega
 ·refine ⟨9,by decide,rfl, ?_⟩
  simp[aJ,aG,aU,aZ,cv,cu,aX,bQ,aE] at hr
  simp[aB,Ins.set,Ins.num,cT]
  omega
 ·refine ⟨10,by decide,rfl, ?_⟩
  simp[aJ,aG,aU,aZ,cv,cu,aX,bQ,aE] at hr
  simp[aB,Ins.set,Ins.num,cT]
  omega
 ·refine ⟨11,by decide,rfl, ?_⟩
  simp[aJ,aG,aU,aZ,cv,cu,aX,bQ,aE] at hr
  simp[aB,Ins.set,Ins.num,cT]
  omega
 ·refine ⟨12,by decide,rfl, ?_⟩
  simp[aJ,aG,aU,aZ,cv,cu,aX,bQ,aE] at hr
  simp[aB,Ins.set,Ins.num,cT]
  omega
 ·refine ⟨13,by decide,rfl, ?_⟩
  simp[aJ,aG,aU,aZ,cv,cu,aX,bQ,aE] at hr
  simp[aB,Ins.set,Ins.num,cT]
  omega
 ·refine ⟨14,by decide,rfl, ?_⟩
  simp[aJ,aG,aU,aZ,cv,cu,aX,bQ,aE] at hr
  simp[aB,Ins.set,Ins.num,cT]
  omega
 ·refine ⟨15,by decide,rfl, ?_⟩
  simp[aJ,aG,aU,aZ,cv,cu,aX,bQ,aE] at hr
  simp[aB,Ins.set,Ins.num,cT]
  omega
 ·refine ⟨16,by decide,rfl, ?_⟩
  simp[aJ,aG,aU,aZ,cv,cu,aX,bQ,aE] at hr
  simp[aB,Ins.set,Ins.num,cT]
  omega
 ·refine ⟨17,by decide,rfl, ?_⟩
  simp[aJ,aG,aU,aZ,cv,cu,aX,bQ,aE] at hr
  simp[aB,Ins.set,Ins.num,cT]
  omega
 ·refine ⟨18,by decide,rfl, ?_⟩
  simp[aJ,aG,aU,aZ,cv,cu,aX,bQ,aE] at hr
  simp[aB,Ins.set,Ins.num,cT]
  omega
 ·refine ⟨19,by decide,rfl, ?_⟩
  simp[aJ,aG,aU,aZ,cv,cu,aX,bQ,aE] at hr
  simp[aB,Ins.set,Ins.num,cT]
  omega
 ·refine ⟨20,by decide,rfl, ?_⟩
  simp[aJ,aG,aU,aZ,cv,cu,aX,bQ,aE] at hr
  simp[aB,Ins.set,Ins.num,cT]
  omega
 ·refine ⟨21,by decide,rfl, ?_⟩
  simp[aJ,aG,aU,aZ,cv,cu,aX,bQ,aE] at hr
  simp[aB,Ins.set,Ins.num,cT]
  omega
 ·refine ⟨22,by decide,rfl, ?_⟩
  simp[aJ,aG,aU,aZ,cv,cu,aX,bQ,aE] at hr
  simp[aB,Ins.set,Ins.num,cT]
  omega
 ·refine ⟨23,by decide,rfl, ?_⟩
  simp[aJ,aG,aU,aZ,cv,cu,aX,bQ,aE] at hr
  simp[aB,Ins.set,Ins.num,cT]
  omega
theorem jX (i:Ins) (hr:aJ i=true):∃k,∃hk:k<aB.length,i.k=(k:Int)/\dV i=aB[k].1++eD i aB[k].2/\dO 32 (dV i)=aB[k].1::(aB[k].2.map fun c=>cW (i.num c))/\ni (aB[k].2.map fun c=>cW (i.num c)) aB[k].2 (cT k)=some i:=by
 obtain ⟨k,hk,h1,h2⟩:=yM i hr
 have hl:dV i=aB[k].1++eD i aB[k].2:=by
  rw[dV,hr,h1,Int.toNat_natCast,List.getElem?_eq_getElem hk];rfl
 refine ⟨k,hk,h1,hl, ?_, ?_⟩
 ·rw[hl,pA i _ _ (uA _ (List.getElem_mem hk))]
 ·rw[qO i _ _ fun c _=>mK hr c,h2]
theorem tC {a b:Nat} (ha:a<aB.length) (hb:b<aB.length) (h:aB[a].1=aB[b].1):a=b:=by
 refine qQ a ha b hb ?_
 rw[List.getElem?_eq_getElem ha,List.getElem?_eq_getElem hb]
 exact congrArg some h
theorem sA {i j:Ins} (hi:aJ i=true) (hj:aJ j=true) (h:dV i=dV j):i=j:=by
 obtain ⟨a,ha,a1,a2,a3,a4⟩:=jX i hi
 obtain ⟨b,hb,b1,b2,b3,b4⟩:=jX j hj
 rw[h,b3] at a3
 obtain ⟨q1,q2⟩:=List.cons.inj a3
 have e:=tC hb ha q1
 subst e
 rw[←q2,b4] at a4
 exact (Option.some.inj a4).symm
end LI
open Go Nm Go.Proofs
namespace LI
theorem od {k:IntKind} {a b:Int} {es:List EK} {l l':List NV}:cj (.int::es) (.int k (.lit a)::l) (.int k (.lit b)::l')=if a=b then cj es l l' else some false:=by
 have hk:eg k k=true:=by cases k<;>rfl
 show (match (cond (eg k k) (some (fF a b)) none) with|some c=>cond c (cj es l l') (some false)|none=>none)=_
 rw[hk,bp]
 by_cases h:a=b
 ·rw[ED h,h];simp
 ·rw[EC h,beq_eq_false_iff_ne.2 h];rfl
def mO (i j:Ins):Bool:=decide (i.k=j.k)&&(decide (i.d=j.d)&&(decide (i.a=j.a)&&(decide (i.b=j.b)&&(decide (i.s=j.s)&&(decide (i.c=j.c)&&decide (i.n=j.n))))))
theorem su (i j:Ins):mO i j=true↔i=j:=by
 obtain ⟨k,d,a,b,s,c,n⟩:=i
 obtain ⟨k',d',a',b',s',c',n'⟩:=j
 simp[mO]
theorem fm {p:Prop} [Decidable p] {o:Option Bool} {b:Bool} (h:o=some b):(if p then o else some false)=some (decide p&&b):=by
 subst h;by_cases hp:p<;>simp[hp]
theorem Ev (i j:Ins):cj [.int,.int,.int,.int,.int,.int,.int] i.cells j.cells=some (mO i j):=by
 unfold Ins.cells
 rw[od,od,od,od,od,od,od]
 refine fm (fm (fm (fm (fm (fm ?_)))))
 show (if i.n=j.n then some true else some false)=_
 by_cases h:i.n=j.n<;>simp[h]
theorem D8 (a b c d e f g a' b' c' d' e' f' g':Int):D9 false [.int,.int,.int,.int,.int,.int,.int] (.agg [ii a,ii b,ii c,ii d,ii e,ii f,ii g]) (.agg [ii a',ii b',ii c',ii d',ii e',ii f',ii g'])= .val (.bool (mO ⟨a,b,c,d,e,f,g⟩ ⟨a',b',c',d',e',f',g'⟩)):=CX (Ev ⟨a,b,c,d,e,f,g⟩ ⟨a',b',c',d',e',f',g'⟩)
theorem ym (a b c d e f g:Int):bc 4 (.agg [ii a,ii b,ii c,ii d,ii e,ii f,ii g]) (.agg [ii a,ii b,ii c,ii d,ii e,ii f,ii g])=true:=sN fun w hw=>by
 simp only[List.mem_cons,List.not_mem_nil,or_false] at hw
 rcases hw with rfl|rfl|rfl|rfl|rfl|rfl|rfl<;>trivial
theorem wl (m:NH):c7 Tryd.prog S0 8 [] m (.bool true) m:=c7.keptM rfl
theorem sO {m:NH} {ts:List TypeId} {l:List NV} (h:TyA Tryd.prog m (23::ts) l):∃(i:Ins) (r:List NV),l= .agg i.cells::r/\TyA Tryd.prog m ts r:=by
 obtain ⟨c,r,rfl,hc,hr⟩:=h.invS Tryd.underlying23
 have h1:TyL Tryd.prog m [3,3,3,3,3,3,3] c:=hc
 obtain ⟨a0,b0,rfl,q0,h1⟩:=h1.inv
 obtain ⟨a1,b1,rfl,q1,h1⟩:=h1.inv
 obtain ⟨a2,b2,rfl,q2,h1⟩:=h1.inv
 obtain ⟨a3,b3,rfl,q3,h1⟩:=h1.inv
 obtain ⟨a4,b4,rfl,q4,h1⟩:=h1.inv
 obtain ⟨a5,b5,rfl,q5,h1⟩:=h1.inv
 obtain ⟨a6,b6,rfl,q6,h1⟩:=h1.inv
 obtain rfl:=h1.inv0
 obtain ⟨z0,rfl,_⟩:=q0.inv_int Tryd.underlying3
 obtain ⟨z1,rfl,_⟩:=q1.inv_int Tryd.underlying3
 obtain ⟨z2,rfl,_⟩:=q2.inv_int Tryd.underlying3
 obtain ⟨z3,rfl,_⟩:=q3.inv_int Tryd.underlying3
 obtain ⟨z4,rfl,_⟩:=q4.inv_int Tryd.underlying3
 obtain ⟨z5,rfl,_⟩:=q5.inv_int Tryd.underlying3
 obtain ⟨z6,rfl,_⟩:=q6.inv_int Tryd.underlying3
 exact ⟨⟨z0,z1,z2,z3,z4,z5,z6⟩,r,rfl,hr⟩
set_option maxRecDepth 100000 in
set_option maxHeartbeats 4000000 in
theorem ml (m0 m:NH) (l:List NV) (hT0:Tb m0) (hC0:Chg [] m0 m) (h:TyA Tryd.prog m [23,23] l):∃m',c7 Tryd.prog S0 6 l m (.bool true) m':=by
 have hT:=hT0.chg hC0
 obtain ⟨i,r,rfl,h1⟩:=sO h
 obtain ⟨j,r,rfl,h2⟩:=sO h1
 obtain rfl:=h2.inv0
 suffices hw:∃m',c7 Tryd.prog S0 6 [.agg i.cells,.agg j.cells] m (.bool true) m'/\True by
  obtain ⟨m',h,_⟩:=hw;exact ⟨m',h⟩
 refine WF.ex1 fun K hK=> ?_
 replace hK:∀m',K (.bool true) m':=fun m'=>hK m' trivial
 refine WF.of_wpG (fun _=>rfl) pG (L:= [(.a .e,.agg j.cells),(.e,.agg i.cells)]) rfl ?_
 have hic:i.cells= [ii i.k,ii i.d,ii i.a,ii i.b,ii i.s,ii i.c,ii i.n]:=rfl
 have hjc:j.cells= [ii j.k,ii j.d,ii j.a,ii j.b,ii j.s,ii j.c,ii j.n]:=rfl
 rw[hic,hjc]
 unfold Di
 simp (config:={maxSteps:=1000000}) (disch:=first|assumption|omega|(apply ao;omega)|(apply ai;assumption)|(simp only[bF]<;>omega)) only[go_sem,seval,(wl _).wf']
 generalize hM0:hp _ 2 m=M0
 have C0:Chg [] m M0:=CU hM0 rfl
 have g0:M0.get (na m 0)=some (.cells true [ii i.k,ii i.d,ii i.a,ii i.b,ii i.s,ii i.c,ii i.n]):=(B6 hM0).trans rfl
 have o0:dC M0 (na m 0):=Bo hM0 (by omega)
 have p0:M0.get (na m 1)=some (.cells true [ii j.k,ii j.d,ii j.a,ii j.b,ii j.s,ii j.c,ii j.n]):=(B6 hM0).trans rfl
 have q0:dC M0 (na m 1):=Bo hM0 (by omega)
 obtain ⟨v1,M1,r1,rfl,C1⟩:=uo M0 i
 have g1:=(C1.get o0 (by simp)).trans g0
 have o1:=C1.old o0
 have p1:=(C1.get q0 (by simp)).trans p0
 have q1:=C1.old q0
 rw[hic] at r1
 cases hr:aJ i with
 |false=>
  simp (config:={maxSteps:=1000000}) (disch:=first|assumption|omega|(apply ao;omega)|(apply ai;assumption)|(simp only[bF]<;>omega)) only[go_sem,seval,r1.wf',g0,g1,p0,p1,hr]
  exact hK _
 |true=>
  obtain ⟨v2,M2,r2,rfl,C2⟩:=uo M1 j
  have g2:=(C2.get o1 (by simp)).trans g1
  have o2:=C2.old o1
  have p2:=(C2.get q1 (by simp)).trans p1
  have q2:=C2.old q1
  rw[hjc] at r2
  cases hr':aJ j with
  |false=>
   simp (config:={maxSteps:=1000000}) (disch:=first|assumption|omega|(apply ao;omega)|(apply ai;assumption)|(simp only[bF]<;>omega)) only[go_sem,seval,r1.wf',g0,g1,p0,p1,hr,hr',r2.wf']
   exact hK _
  |true=>
   obtain ⟨v3,M3,r3,rfl,C3⟩:=t6 M2 (((hT.chg C0).chg C1).chg C2) i
   obtain ⟨v4,M4,r4,rfl,C4⟩:=t6 M3 ((((hT.chg C0).chg C1).chg C2).chg C3) j
   rw[hic] at r3
   rw[hjc] at r4
   have p3:=(C3.get q2 (by simp)).trans p2
   have q3:=C3.old q2
   have g3:=(C3.get o2 (by simp)).trans g2
   have o3:=C3.old o2
   have h7:=D8 i.k i.d i.a i.b i.s i.c i.n j.k j.d j.a j.b j.s j.c j.n
   have hij:mO ⟨i.k,i.d,i.a,i.b,i.s,i.c,i.n⟩ ⟨j.k,j.d,j.a,j.b,j.s,j.c,j.n⟩=decide (dV i=dV j):=by
    rw[Bool.eq_iff_iff,decide_eq_true_iff]
    exact (su i j).trans ⟨fun e=>by rw[e],fun e=>sA hr hr' e⟩
   rw[hij] at h7
   generalize hb:decide (dV i=dV j)=bb at *
   have hbb:∀b:Bool,(b==b)=true:=by intro b;cases b<;>rfl
   have g4:=(C4.get o3 (by simp)).trans g3
   have p4:=(C4.get q3 (by simp)).trans p3
   have s1:=ym i.k i.d i.a i.b i.s i.c i.n
   have s2:=ym j.k j.d j.a j.b j.s j.c j.n
   simp (config:={maxSteps:=1000000}) (disch:=first|assumption|omega|(apply ao;omega)|(apply ai;assumption)|(simp only[bF]<;>omega)) only[go_sem,seval,r1.wf',g0,g1,g2,g3,g4,p0,p1,p2,p3,p4,hr,hr',r2.wf',r3.wf',r4.wf',hb,h7,s1,s2]
   exact hK _
end LI
open Go Nm Go.Proofs Go.RowKit
open Go.Proofs.YtbjinflchdkhiaaDoor
namespace LI
theorem Ec (t u x y:Nat):Tb (M0 t u x y):=by
 have n0:(D4.of 0).toNat=0:=by kernel_rfl
 have n1:(D4.of 1).toNat=1:=by kernel_rfl
 have n2:(D4.of 2).toNat=2:=by kernel_rfl
 have h01:D4.of 0≠D4.of 1:=fun e=>by rw[e,n1] at n0;omega
 have h02:D4.of 0≠D4.of 2:=fun e=>by rw[e,n2] at n0;omega
 have h12:D4.of 1≠D4.of 2:=fun e=>by rw[e,n2] at n1;omega
 refine ⟨NH.get_put_same _ _ _,⟨t,.ptr (D4.of 8) x, ?_⟩,⟨u,.ptr (D4.of 9) y, ?_⟩, ?_, ?_, ?_⟩
 ·unfold M0;rw[NH.get_put_ne _ _ h02,NH.get_put_ne _ _ h01,NH.get_put_same]
 ·unfold M0;rw[NH.get_put_ne _ _ h12,NH.get_put_same]
 ·exact Nat.le_of_ble_eq_true (by kernel_rfl)
 ·exact Nat.le_of_ble_eq_true (by kernel_rfl)
 ·exact Nat.le_of_ble_eq_true (by kernel_rfl)
set_option maxRecDepth 100000
section
variable [Val]
theorem Ch:qn Tryd.prog [3,9,23]=true:=by kernel_rfl
theorem Dl {W:World} (hL:laidMetH Tryd.prog Rows.listingWrongRow.laid W) {f:Nat} {nf:NFun} {ts:List TypeId} (hf:ak Tryd.prog f=some (.code nf)) (hs:∀l,S0 f l=fun _=>none) (hts:∀t∈ts,t∈ [3,9,23])
 (law:∀(m0 m:NH) (l:List NV),Tb m0->Chg [] m0 m->TyA Tryd.prog m ts l->∃m',c7 Tryd.prog S0 f l m (.bool true) m') {H:Type} {enc:TypeId×Value->H} {args:List Value} {ds:List (DataW H)} {ps:List MemPlace}
 (h:DataW.TrodAll enc Tryd.prog W 0 (fun _=>true) true ts args ds ps) {base:Nat} (hval:∀(j:Nat) t v,ts[j]? =some t->args[j]? =some v->Value.okWide Tryd.prog W .any base t v):
 Calls Tryd.prog f args.toArray W fun e W'=>e= .returned (.bool true)/\Below W.heap.size W W':=by
 obtain ⟨t,u,a,b,ι,hR⟩:=zH hL
 have hg:=hR.1.global (g:=2) (by decide) (Ec t u a b).1 (by rfl)
 obtain ⟨cur,T,fz,hg,_⟩:=hg
 exact nZ mixed Tryd.codeOk BA Ch hf hs hts (fun m l hC hl=>law _ m l (Ec t u a b) hC hl) hR ⟨_,cur,T,fz,hg⟩ h hval
theorem apart {W:World} (hL:laidMetH Tryd.prog Rows.listingApartRow.laid W) (_:W.ShapedOpen Tryd.prog) {H:Type} {enc:TypeId×Value->H} {args:List Value} {ds:List (DataW H)} {ps:List MemPlace}
 (h:DataW.TrodAll enc Tryd.prog W 0 (fun _=>true) true [23,23] args ds ps) {base:Nat} (hval:∀(j:Nat) t v, [23,23][j]? =some t->args[j]? =some v->Value.okWide Tryd.prog W .any base t v):
 Calls Tryd.prog 6 args.toArray W fun e W'=>e= .returned (.bool true)/\Below W.heap.size W W':=
 Dl hL pG (fun _=>rfl) (by decide) ml h hval
end
end LI
