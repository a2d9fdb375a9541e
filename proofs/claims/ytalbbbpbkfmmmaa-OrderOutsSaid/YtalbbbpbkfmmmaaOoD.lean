/- A machine that runs the given program with memory and order of evaluation taken apart, and what it shows of the law OrderOuts: part 4. -/
import Derived.Test.YtalbbbpbkfmmmaaProg
import Derived.KernelRfl
import Derived.Shelf.SlIterI.Nil
import Derived.Shelf.SlIterI.Sorted
import Derived.Shelf.SlicesG.Cmp
import Derived.Shelf.SlLaysF0
import Derived.Shelf.SortM.Plain
import Derived.Shelf.GgSortFunc.InsertionK
import Derived.Test.YtalbbbpbkfmmmaaRows
import Derived.Test.YtalbbbpbkfmmmaaChecked
import Derived.Shelf.SlSortCmp.WholeK
import Derived.Shelf.SlSortCmp.NoneTotal
import Derived.Shelf.SortM.SortNone
import Derived.OpenShut
import Derived.ProofKit
import Derived.ChangeShapes
import Derived.Test.YtalbbbpbkfmmmaaOoC
set_option linter.unusedSimpArgs false
set_option linter.unusedVariables false
set_option linter.unusedSectionVars false
set_option linter.defProp false
namespace OD
open Go Nm Go.Proofs
open Nm.D4 (e)
open Nm.NC (reg regD)
open Nm.C
noncomputable def Bk:NC:=(((reg [m e.a.a.c e.a.b 0,m e.a.a.f e 1,L e.a.b.a e.a.a.f 2,m e.a.b.b e.a 3,L e.a.b.c e.a.b.b 4,b e.a.b.f .add (t e.a.b.a) (t e.a.b.c) 5,b e.a.c.a .lss (t e.a.a.c) (t e.a.b.f) 6]).seq (NC.cond (t e.a.c.a) NC.skip (NC.exit 0))).seq ((NC.block 1 ((reg [o e.a.c.f (.build [.int .i64 (.lit 0),.int .i64 (.lit 0),.int .i64 (.lit 0),.int .u64 (.lit 0)] []) 0,o e.a.c (.alloc [.int .i64 (.lit 0),.int .i64 (.lit 0),.int .i64 (.lit 0),.int .u64 (.lit 0)] 26) 1,q (.store 4 (t e.a.c) (t e.a.c.f)) 2]).seq (((reg [m e.a.f.a e.a.b 0,m e.a.f.b e 1,L e.a.f.c e.a.f.b 2,b e.a.f.f .lss (t e.a.f.a) (t e.a.f.c) 3]).seq (NC.cond (t e.a.f.f) (reg [m e.b.a.a e 0,m e.b.a.b e.a.b 1,o e.b.a.c (.indexSlc 4 (t e.b.a.a) (t e.b.a.b)) 2,o e.b.a.f (.loadN 4 (t e.b.a.c)) 3,q (.store 4 (t e.a.c) (t e.b.a.f)) 4]) (reg [m e.b.b.a e.a 0,m e.b.b.b e.a.b 1,m e.b.b.c e 2,L e.b.b.f e.b.b.c 3,b e.b.c.a .sub (t e.b.b.b) (t e.b.b.f) 4,o e.b.c.b (.indexSlc 4 (t e.b.b.a) (t e.b.c.a)) 5,o e.b.c.c (.loadN 4 (t e.b.c.b)) 6,q (.store 4 (t e.a.c) (t e.b.c.c)) 7]))).seq ((reg [f 1 e.b.c.f e.a.c 0,l e.b.f.a e.b.c.f 1,b e.b.f.b .lss (t e.b.f.a) (k 0) 2,m e.b.f.c e.b.f.b 3,G e.b.f.f (.fieldAddr 1 (t e.a.c)) e.b.f.c false 4,G e.c.a.a (.load1 (t e.b.f.f)) e.b.f.c false 5,G e.c.a.b (.bin .num .gtr (t e.c.a.a) (k 63)) e.b.f.c false 6,o e.c.a.c (.pick (t e.b.f.c) kt (t e.c.a.b)) 7]).seq (NC.cond (t e.c.a.c) ((reg [o e.f (.move kt) 0]).seq NC.ret) NC.skip))))).seq (reg [m e.a.c.b e.a.b 0,b e.a.c.c .add (t e.a.c.b) (k 1) 1,m e.a.b e.a.c.c 2])))
noncomputable def F6:NFun:=⟨(reg [o e.f (.move kf) 0]).seq ((reg [o e.b.a (.call (F 6) []) 0,m e.a.a e.b.a 1]).seq (((reg [m e.b.b e.a.a 0,o e.b.c (.un .not (t e.b.b)) 1,m e.b.f e.b.c 2,G e.c.a (.move (t e)) e.b.f false 3,G e.c.b (.lenSlc (t e.c.a)) e.b.f false 4,G e.c.c (.bin .num .gtr (t e.c.b) (k 150)) e.b.f false 5,o e.c.f (.pick (t e.b.f) kt (t e.c.c)) 6,m e.f.a e.c.f 7,G e.f.b (.move (t e.a)) e.f.a false 8,G e.f.c (.lenSlc (t e.f.b)) e.f.a false 9,G e.f.f (.bin .num .gtr (t e.f.c) (k 150)) e.f.a false 10,o e.a.a.a (.pick (t e.f.a) kt (t e.f.f)) 11]).seq (NC.cond (t e.a.a.a) ((reg [m e.a.a.b e.a.a 0,m e.f e.a.a.b 1]).seq NC.ret) NC.skip)).seq (((reg [o e.a.b (.move (k 0)) 0]).seq (NC.block 0 Bk.loop)).seq ((reg [m e.c.a.f e 0,o e.c.b.a (.append 4 32 26 kn (t e.c.a.f)) 1,o e.c.b.b (.build [.int .i64 (.lit 0),.int .i64 (.lit 0),.int .i64 (.lit 0),.int .u64 (.lit 0)] [(0,1,k 8)]) 2,o e.c.b.c (.buildSlice [.int .i64 (.lit 0),.int .i64 (.lit 0),.int .i64 (.lit 0),.int .u64 (.lit 0)] 4 1 26 [(0,4,t e.c.b.b)]) 3,o e.c.b.f (.append 4 32 26 (t e.c.b.a) (t e.c.b.c)) 4,m e.c.c.a e.a 5,o e.c.c.b (.append 4 32 26 (t e.c.b.f) (t e.c.c.a)) 6,o e.c.c.c (.call (F 7) [t e.c.c.b]) 7,m e.a.f e.c.c.c 8]).seq ((reg [m e.c.c.f e.a.f 0,m e.c.f.a e 1,o e.c.f.b (.call (F 7) [t e.c.f.a]) 2,o e.c.f.c (.buildSlice [.int .i64 (.lit 0)] 1 1 3 [(0,1,k (-1))]) 3,o e.c.f.f (.append 1 8 3 (t e.c.f.b) (t e.c.f.c)) 4,m e.f.a.a e.a 5,o e.f.a.b (.call (F 7) [t e.f.a.a]) 6,o e.f.a.c (.append 1 8 3 (t e.c.f.f) (t e.f.a.b)) 7,o e.f.a.f (.call (F 8) [t e.c.c.f,t e.f.a.c]) 8,m e.f e.f.a.f 9]).seq NC.ret))))),73, [.tmp e.f]⟩
theorem BA:an Try.prog 3=some (.code F6):=by kernel_rfl
noncomputable def F1:NFun:=⟨(reg [o e.b (.move kf) 0]).seq ((reg [o e.c.c (.call (F 6) []) 0,m e.c e.c.c 1]).seq ((reg [o e.c.f (.build [.int .i64 (.lit 0),.int .i64 (.lit 0),.int .i64 (.lit 0),.int .u64 (.lit 0)] [(0,1,k 1),(2,1,k 4096)]) 0,o e.f (.alloc [.int .i64 (.lit 0),.int .i64 (.lit 0),.int .i64 (.lit 0),.int .u64 (.lit 0)] 26) 1,q (.store 4 (t e.f) (t e.c.f)) 2]).seq ((reg [o e.f.a (.build [.int .i64 (.lit 0),.int .i64 (.lit 0),.int .i64 (.lit 0),.int .u64 (.lit 0)] [(0,1,k 2),(2,1,k 4096)]) 0,o e.a.a (.alloc [.int .i64 (.lit 0),.int .i64 (.lit 0),.int .i64 (.lit 0),.int .u64 (.lit 0)] 26) 1,q (.store 4 (t e.a.a) (t e.f.a)) 2]).seq ((reg [o e.f.b (.build [.int .i64 (.lit 0),.int .i64 (.lit 0),.int .i64 (.lit 0),.int .u64 (.lit 0)] [(0,1,k 3),(2,1,k 4096)]) 0,o e.a.b (.alloc [.int .i64 (.lit 0),.int .i64 (.lit 0),.int .i64 (.lit 0),.int .u64 (.lit 0)] 26) 1,q (.store 4 (t e.a.b) (t e.f.b)) 2]).seq ((reg [o e.f.c (.build [.int .i64 (.lit 0),.int .i64 (.lit 0),.int .i64 (.lit 0),.int .u64 (.lit 0)] [(0,1,k 6)]) 0,o e.a.c (.alloc [.int .i64 (.lit 0),.int .i64 (.lit 0),.int .i64 (.lit 0),.int .u64 (.lit 0)] 26) 1,q (.store 4 (t e.a.c) (t e.f.c)) 2]).seq ((reg [o e.f.f (.build [.int .i64 (.lit 0),.int .i64 (.lit 0),.int .i64 (.lit 0),.int .u64 (.lit 0)] [(0,1,k 7)]) 0,o e.a.f (.alloc [.int .i64 (.lit 0),.int .i64 (.lit 0),.int .i64 (.lit 0),.int .u64 (.lit 0)] 26) 1,q (.store 4 (t e.a.f) (t e.f.f)) 2]).seq ((reg [o e.a.a.a (.build [.int .i64 (.lit 0),.int .i64 (.lit 0),.int .i64 (.lit 0),.int .u64 (.lit 0)] [(0,1,k 8)]) 0,o e.b.a (.alloc [.int .i64 (.lit 0),.int .i64 (.lit 0),.int .i64 (.lit 0),.int .u64 (.lit 0)] 26) 1,q (.store 4 (t e.b.a) (t e.a.a.a)) 2]).seq ((reg [o e.a.a.b (.build [.int .i64 (.lit 0),.int .i64 (.lit 0),.int .i64 (.lit 0),.int .u64 (.lit 0)] [(0,1,k 4),(1,1,k 1)]) 0,o e.b.b (.alloc [.int .i64 (.lit 0),.int .i64 (.lit 0),.int .i64 (.lit 0),.int .u64 (.lit 0)] 26) 1,q (.store 4 (t e.b.b) (t e.a.a.b)) 2]).seq ((reg [o e.a.a.c (.build [.int .i64 (.lit 0),.int .i64 (.lit 0),.int .i64 (.lit 0),.int .u64 (.lit 0)] [(0,1,k 10)]) 0,o e.b.c (.alloc [.int .i64 (.lit 0),.int .i64 (.lit 0),.int .i64 (.lit 0),.int .u64 (.lit 0)] 26) 1,q (.store 4 (t e.b.c) (t e.a.a.c)) 2]).seq ((reg [o e.a.a.f (.build [.int .i64 (.lit 0),.int .i64 (.lit 0),.int .i64 (.lit 0),.int .u64 (.lit 0)] [(0,1,k 7),(2,1,k 1)]) 0,o e.b.f (.alloc [.int .i64 (.lit 0),.int .i64 (.lit 0),.int .i64 (.lit 0),.int .u64 (.lit 0)] 26) 1,q (.store 4 (t e.b.f) (t e.a.a.f)) 2]).seq ((reg [o e.a.b.a (.loadN 4 (t e.f)) 0,o e.a.b.b (.buildSlice [.int .i64 (.lit 0),.int .i64 (.lit 0),.int .i64 (.lit 0),.int .u64 (.lit 0)] 4 1 26 [(0,4,t e.a.b.a)]) 1,o e.a.b.c (.loadN 4 (t e.f)) 2,o e.a.b.f (.loadN 4 (t e.a.c)) 3,o e.a.c.a (.buildSlice [.int .i64 (.lit 0),.int .i64 (.lit 0),.int .i64 (.lit 0),.int .u64 (.lit 0),.int .i64 (.lit 0),.int .i64 (.lit 0),.int .i64 (.lit 0),.int .u64 (.lit 0)] 4 2 26 [(0,4,t e.a.b.c),(4,4,t e.a.b.f)]) 4,o e.a.c.b (.loadN 4 (t e.f)) 5,o e.a.c.c (.loadN 4 (t e.f)) 6,o e.a.c.f (.loadN 4 (t e.a.c)) 7,o e.a.f.a (.buildSlice [.int .i64 (.lit 0),.int .i64 (.lit 0),.int .i64 (.lit 0),.int .u64 (.lit 0),.int .i64 (.lit 0),.int .i64 (.lit 0),.int .i64 (.lit 0),.int .u64 (.lit 0),.int .i64 (.lit 0),.int .i64 (.lit 0),.int .i64 (.lit 0),.int .u64 (.lit 0)] 4 3 26 [(0,4,t e.a.c.b),(4,4,t e.a.c.c),(8,4,t e.a.c.f)]) 8,o e.a.f.b (.loadN 4 (t e.a.b)) 9,o e.a.f.c (.buildSlice [.int .i64 (.lit 0),.int .i64 (.lit 0),.int .i64 (.lit 0),.int .u64 (.lit 0)] 4 1 26 [(0,4,t e.a.f.b)]) 10,o e.a.f.f (.loadN 4 (t e.a.b)) 11,o e.b.a.a (.loadN 4 (t e.a.f)) 12,o e.b.a.b (.buildSlice [.int .i64 (.lit 0),.int .i64 (.lit 0),.int .i64 (.lit 0),.int .u64 (.lit 0),.int .i64 (.lit 0),.int .i64 (.lit 0),.int .i64 (.lit 0),.int .u64 (.lit 0)] 4 2 26 [(0,4,t e.a.f.f),(4,4,t e.b.a.a)]) 13,o e.b.a.c (.loadN 4 (t e.a.f)) 14,o e.b.a.f (.loadN 4 (t e.a.b)) 15,o e.b.b.a (.buildSlice [.int .i64 (.lit 0),.int .i64 (.lit 0),.int .i64 (.lit 0),.int .u64 (.lit 0),.int .i64 (.lit 0),.int .i64 (.lit 0),.int .i64 (.lit 0),.int .u64 (.lit 0)] 4 2 26 [(0,4,t e.b.a.c),(4,4,t e.b.a.f)]) 16,o e.b.b.b (.loadN 4 (t e.a.b)) 17,o e.b.b.c (.loadN 4 (t e.b.f)) 18,o e.b.b.f (.buildSlice [.int .i64 (.lit 0),.int .i64 (.lit 0),.int .i64 (.lit 0),.int .u64 (.lit 0),.int .i64 (.lit 0),.int .i64 (.lit 0),.int .i64 (.lit 0),.int .u64 (.lit 0)] 4 2 26 [(0,4,t e.b.b.b),(4,4,t e.b.b.c)]) 19,o e.b.c.a (.loadN 4 (t e.a.b)) 20,o e.b.c.b (.loadN 4 (t e.a.f)) 21,o e.b.c.c (.loadN 4 (t e.b.a)) 22,o e.b.c.f (.buildSlice [.int .i64 (.lit 0),.int .i64 (.lit 0),.int .i64 (.lit 0),.int .u64 (.lit 0),.int .i64 (.lit 0),.int .i64 (.lit 0),.int .i64 (.lit 0),.int .u64 (.lit 0),.int .i64 (.lit 0),.int .i64 (.lit 0),.int .i64 (.lit 0),.int .u64 (.lit 0)] 4 3 26 [(0,4,t e.b.c.a),(4,4,t e.b.c.b),(8,4,t e.b.c.c)]) 23,o e.b.f.a (.loadN 4 (t e.a.b)) 24,o e.b.f.b (.loadN 4 (t e.b.a)) 25,o e.b.f.c (.loadN 4 (t e.a.f)) 26,o e.b.f.f (.buildSlice [.int .i64 (.lit 0),.int .i64 (.lit 0),.int .i64 (.lit 0),.int .u64 (.lit 0),.int .i64 (.lit 0),.int .i64 (.lit 0),.int .i64 (.lit 0),.int .u64 (.lit 0),.int .i64 (.lit 0),.int .i64 (.lit 0),.int .i64 (.lit 0),.int .u64 (.lit 0)] 4 3 26 [(0,4,t e.b.f.a),(4,4,t e.b.f.b),(8,4,t e.b.f.c)]) 27,o e.c.a.a (.loadN 4 (t e.a.a)) 28,o e.c.a.b (.loadN 4 (t e.a.b)) 29,o e.c.a.c (.loadN 4 (t e.a.c)) 30,o e.c.a.f (.buildSlice [.int .i64 (.lit 0),.int .i64 (.lit 0),.int .i64 (.lit 0),.int .u64 (.lit 0),.int .i64 (.lit 0),.int .i64 (.lit 0),.int .i64 (.lit 0),.int .u64 (.lit 0),.int .i64 (.lit 0),.int .i64 (.lit 0),.int .i64 (.lit 0),.int .u64 (.lit 0)] 4 3 26 [(0,4,t e.c.a.a),(4,4,t e.c.a.b),(8,4,t e.c.a.c)]) 31,o e.c.b.a (.loadN 4 (t e.a.a)) 32,o e.c.b.b (.loadN 4 (t e.a.a)) 33,o e.c.b.c (.loadN 4 (t e.a.c)) 34,o e.c.b.f (.buildSlice [.int .i64 (.lit 0),.int .i64 (.lit 0),.int .i64 (.lit 0),.int .u64 (.lit 0),.int .i64 (.lit 0),.int .i64 (.lit 0),.int .i64 (.lit 0),.int .u64 (.lit 0),.int .i64 (.lit 0),.int .i64 (.lit 0),.int .i64 (.lit 0),.int .u64 (.lit 0)] 4 3 26 [(0,4,t e.c.b.a),(4,4,t e.c.b.b),(8,4,t e.c.b.c)]) 35,o e.c.c.a (.loadN 4 (t e.a.a)) 36,o e.c.c.b (.loadN 4 (t e.a.c)) 37,o e.c.c.c (.loadN 4 (t e.a.a)) 38,o e.c.c.f (.loadN 4 (t e.a.c)) 39,o e.c.f.a (.buildSlice [.int .i64 (.lit 0),.int .i64 (.lit 0),.int .i64 (.lit 0),.int .u64 (.lit 0),.int .i64 (.lit 0),.int .i64 (.lit 0),.int .i64 (.lit 0),.int .u64 (.lit 0),.int .i64 (.lit 0),.int .i64 (.lit 0),.int .i64 (.lit 0),.int .u64 (.lit 0),.int .i64 (.lit 0),.int .i64 (.lit 0),.int .i64 (.lit 0),.int .u64 (.lit 0)] 4 4 26 [(0,4,t e.c.c.a),(4,4,t e.c.c.b),(8,4,t e.c.c.c),(12,4,t e.c.c.f)]) 40,o e.c.f.b (.loadN 4 (t e.f)) 41,o e.c.f.c (.loadN 4 (t e.a.b)) 42,o e.c.f.f (.loadN 4 (t e.a.c)) 43,o e.f.a.a (.buildSlice [.int .i64 (.lit 0),.int .i64 (.lit 0),.int .i64 (.lit 0),.int .u64 (.lit 0),.int .i64 (.lit 0),.int .i64 (.lit 0),.int .i64 (.lit 0),.int .u64 (.lit 0),.int .i64 (.lit 0),.int .i64 (.lit 0),.int .i64 (.lit 0),.int .u64 (.lit 0)] 4 3 26 [(0,4,t e.c.f.b),(4,4,t e.c.f.c),(8,4,t e.c.f.f)]) 44,o e.f.a.b (.loadN 4 (t e.a.a)) 45,o e.f.a.c (.loadN 4 (t e.a.b)) 46,o e.f.a.f (.loadN 4 (t e.a.b)) 47,o e.f.b.a (.loadN 4 (t e.a.c)) 48,o e.f.b.b (.buildSlice [.int .i64 (.lit 0),.int .i64 (.lit 0),.int .i64 (.lit 0),.int .u64 (.lit 0),.int .i64 (.lit 0),.int .i64 (.lit 0),.int .i64 (.lit 0),.int .u64 (.lit 0),.int .i64 (.lit 0),.int .i64 (.lit 0),.int .i64 (.lit 0),.int .u64 (.lit 0),.int .i64 (.lit 0),.int .i64 (.lit 0),.int .i64 (.lit 0),.int .u64 (.lit 0)] 4 4 26 [(0,4,t e.f.a.b),(4,4,t e.f.a.c),(8,4,t e.f.a.f),(12,4,t e.f.b.a)]) 49,o e.f.b.c (.loadN 4 (t e.a.b)) 50,o e.f.b.f (.loadN 4 (t e.b.b)) 51,o e.f.c.a (.loadN 4 (t e.a.c)) 52,o e.f.c.b (.buildSlice [.int .i64 (.lit 0),.int .i64 (.lit 0),.int .i64 (.lit 0),.int .u64 (.lit 0),.int .i64 (.lit 0),.int .i64 (.lit 0),.int .i64 (.lit 0),.int .u64 (.lit 0),.int .i64 (.lit 0),.int .i64 (.lit 0),.int .i64 (.lit 0),.int .u64 (.lit 0)] 4 3 26 [(0,4,t e.f.b.c),(4,4,t e.f.b.f),(8,4,t e.f.c.a)]) 53,o e.f.c.c (.loadN 4 (t e.b.b)) 54,o e.f.c.f (.loadN 4 (t e.a.b)) 55,o e.f.f.a (.loadN 4 (t e.a.f)) 56,o e.f.f.b (.buildSlice [.int .i64 (.lit 0),.int .i64 (.lit 0),.int .i64 (.lit 0),.int .u64 (.lit 0),.int .i64 (.lit 0),.int .i64 (.lit 0),.int .i64 (.lit 0),.int .u64 (.lit 0),.int .i64 (.lit 0),.int .i64 (.lit 0),.int .i64 (.lit 0),.int .u64 (.lit 0)] 4 3 26 [(0,4,t e.f.c.c),(4,4,t e.f.c.f),(8,4,t e.f.f.a)]) 57,o e.f.f.c (.loadN 4 (t e.a.b)) 58,o e.f.f.f (.loadN 4 (t e.b.c)) 59,o e.a.a.a.a (.buildSlice [.int .i64 (.lit 0),.int .i64 (.lit 0),.int .i64 (.lit 0),.int .u64 (.lit 0),.int .i64 (.lit 0),.int .i64 (.lit 0),.int .i64 (.lit 0),.int .u64 (.lit 0)] 4 2 26 [(0,4,t e.f.f.c),(4,4,t e.f.f.f)]) 60,o e.a.a.a.b (.loadN 4 (t e.a.a)) 61,o e.a.a.a.c (.loadN 4 (t e.b.b)) 62,o e.a.a.a.f (.loadN 4 (t e.a.b)) 63,o e.a.a.b.a (.loadN 4 (t e.a.f)) 64,o e.a.a.b.b (.buildSlice [.int .i64 (.lit 0),.int .i64 (.lit 0),.int .i64 (.lit 0),.int .u64 (.lit 0),.int .i64 (.lit 0),.int .i64 (.lit 0),.int .i64 (.lit 0),.int .u64 (.lit 0),.int .i64 (.lit 0),.int .i64 (.lit 0),.int .i64 (.lit 0),.int .u64 (.lit 0),.int .i64 (.lit 0),.int .i64 (.lit 0),.int .i64 (.lit 0),.int .u64 (.lit 0)] 4 4 26 [(0,4,t e.a.a.a.b),(4,4,t e.a.a.a.c),(8,4,t e.a.a.a.f),(12,4,t e.a.a.b.a)]) 65,o e.a.a.b.c (.loadN 4 (t e.f)) 66,o e.a.a.b.f (.build [.int .i64 (.lit 0),.int .i64 (.lit 0),.int .i64 (.lit 0),.int .u64 (.lit 0)] [(0,1,k 9)]) 67,o e.a.a.c.a (.buildSlice [.int .i64 (.lit 0),.int .i64 (.lit 0),.int .i64 (.lit 0),.int .u64 (.lit 0),.int .i64 (.lit 0),.int .i64 (.lit 0),.int .i64 (.lit 0),.int .u64 (.lit 0)] 4 2 26 [(0,4,t e.a.a.b.c),(4,4,t e.a.a.b.f)]) 68,o e.a.a.c.b (.loadN 4 (t e.a.a)) 69,o e.a.a.c.c (.loadN 4 (t e.f)) 70,o e.a.a.c.f (.loadN 4 (t e.a.c)) 71,o e.a.a.f.a (.buildSlice [.int .i64 (.lit 0),.int .i64 (.lit 0),.int .i64 (.lit 0),.int .u64 (.lit 0),.int .i64 (.lit 0),.int .i64 (.lit 0),.int .i64 (.lit 0),.int .u64 (.lit 0),.int .i64 (.lit 0),.int .i64 (.lit 0),.int .i64 (.lit 0),.int .u64 (.lit 0)] 4 3 26 [(0,4,t e.a.a.c.b),(4,4,t e.a.a.c.c),(8,4,t e.a.a.c.f)]) 72,o e.a.a.f.b (.loadN 4 (t e.a.a)) 73,o e.a.a.f.c (.loadN 4 (t e.a.b)) 74,o e.a.a.f.f (.loadN 4 (t e.a.f)) 75,o e.a.b.a.a (.loadN 4 (t e.b.a)) 76,o e.a.b.a.b (.loadN 4 (t e.b.b)) 77,o e.a.b.a.c (.buildSlice [.int .i64 (.lit 0),.int .i64 (.lit 0),.int .i64 (.lit 0),.int .u64 (.lit 0),.int .i64 (.lit 0),.int .i64 (.lit 0),.int .i64 (.lit 0),.int .u64 (.lit 0),.int .i64 (.lit 0),.int .i64 (.lit 0),.int .i64 (.lit 0),.int .u64 (.lit 0),.int .i64 (.lit 0),.int .i64 (.lit 0),.int .i64 (.lit 0),.int .u64 (.lit 0),.int .i64 (.lit 0),.int .i64 (.lit 0),.int .i64 (.lit 0),.int .u64 (.lit 0)] 4 5 26 [(0,4,t e.a.a.f.b),(4,4,t e.a.a.f.c),(8,4,t e.a.a.f.f),(12,4,t e.a.b.a.a),(16,4,t e.a.b.a.b)]) 78,o e.a.b.a.f (.buildSlice [.nils,.nils,.nils,.nils,.nils,.nils,.nils,.nils,.nils,.nils,.nils,.nils,.nils,.nils,.nils,.nils,.nils,.nils,.nils,.nils,.nils] 1 21 22 [(0,1,t e.a.b.b),(1,1,t e.a.c.a),(2,1,t e.a.f.a),(3,1,t e.a.f.c),(4,1,t e.b.a.b),(5,1,t e.b.b.a),(6,1,t e.b.b.f),(7,1,t e.b.c.f),(8,1,t e.b.f.f),(9,1,t e.c.a.f),(10,1,t e.c.b.f),(11,1,t e.c.f.a),(12,1,t e.f.a.a),(13,1,t e.f.b.b),(14,1,t e.f.c.b),(15,1,t e.f.f.b),(16,1,t e.a.a.a.a),(17,1,t e.a.a.b.b),(18,1,t e.a.a.c.a),(19,1,t e.a.a.f.a),(20,1,t e.a.b.a.c)]) 79,m e.c.a e.a.b.a.f 80]).seq ((reg [o e.a.b.b.a (.buildSlice [.int .i64 (.lit 0)] 1 1 3 [(0,1,k 0)]) 0,o e.a.b.b.b (.buildSlice [.int .i64 (.lit 0),.int .i64 (.lit 0)] 1 2 3 [(0,1,k 0),(1,1,k 0)]) 1,o e.a.b.b.c (.buildSlice [.int .i64 (.lit 0)] 1 1 3 [(0,1,k 0)]) 2,o e.a.b.b.f (.buildSlice [.int .i64 (.lit 0),.int .i64 (.lit 0)] 1 2 3 [(0,1,k 0),(1,1,k (-1))]) 3,o e.a.b.c.a (.buildSlice [.int .i64 (.lit 0)] 1 1 3 [(0,1,k (-1))]) 4,o e.a.b.c.b (.buildSlice [.int .i64 (.lit 0)] 1 1 3 [(0,1,k 0)]) 5,o e.a.b.c.c (.buildSlice [.int .i64 (.lit 0)] 1 1 3 [(0,1,k 0)]) 6,o e.a.b.c.f (.buildSlice [.int .i64 (.lit 0),.int .i64 (.lit 0)] 1 2 3 [(0,1,k 0),(1,1,k 0)]) 7,o e.a.b.f.a (.buildSlice [.int .i64 (.lit 0),.int .i64 (.lit 0)] 1 2 3 [(0,1,k 0),(1,1,k 0)]) 8,o e.a.b.f.b (.buildSlice [.int .i64 (.lit 0),.int .i64 (.lit 0)] 1 2 3 [(0,1,k 0),(1,1,k 0)]) 9,o e.a.b.f.c (.buildSlice [.int .i64 (.lit 0),.int .i64 (.lit 0)] 1 2 3 [(0,1,k 0),(1,1,k 1)]) 10,o e.a.b.f.f (.buildSlice [.int .i64 (.lit 0),.int .i64 (.lit 0)] 1 2 3 [(0,1,k 1),(1,1,k 0)]) 11,o e.a.c.a.a (.buildSlice [.int .i64 (.lit 0)] 1 1 3 [(0,1,k 0)]) 12,o e.a.c.a.b (.buildSlice [.int .i64 (.lit 0),.int .i64 (.lit 0)] 1 2 3 [(0,1,k 1),(1,1,k 0)]) 13,o e.a.c.a.c (.buildSlice [.int .i64 (.lit 0)] 1 1 3 [(0,1,k 0)]) 14,o e.a.c.a.f (.buildSlice [.int .i64 (.lit 0),.int .i64 (.lit 0)] 1 2 3 [(0,1,k 0),(1,1,k 0)]) 15,o e.a.c.b.a (.buildSlice [.int .i64 (.lit 0),.int .i64 (.lit 0),.int .i64 (.lit 0)] 1 3 3 [(0,1,k 0),(1,1,k (-1)),(2,1,k 1)]) 16,o e.a.c.b.b (.buildSlice [.nils,.nils,.nils,.nils,.nils,.nils,.nils,.nils,.nils,.nils,.nils,.nils,.nils,.nils,.nils,.nils,.nils,.nils,.nils,.nils,.nils] 1 21 27 [(0,1,.const .nils),(1,1,t e.a.b.b.a),(2,1,t e.a.b.b.b),(3,1,.const .nils),(4,1,t e.a.b.b.c),(5,1,.const .nils),(6,1,.const .nils),(7,1,t e.a.b.b.f),(8,1,t e.a.b.c.a),(9,1,t e.a.b.c.b),(10,1,t e.a.b.c.c),(11,1,t e.a.b.c.f),(12,1,t e.a.b.f.a),(13,1,t e.a.b.f.b),(14,1,t e.a.b.f.c),(15,1,t e.a.b.f.f),(16,1,t e.a.c.a.a),(17,1,t e.a.c.a.b),(18,1,t e.a.c.a.c),(19,1,t e.a.c.a.f),(20,1,t e.a.c.b.a)]) 17,m e.c.b e.a.c.b.b 18]).seq (((reg [m e.a.c.b.c e.c 0,o e.a.c.b.f (.un .not (t e.a.c.b.c)) 1,m e.a.c.c.a e.a.c.b.f 2,G e.a.c.c.b (.move (t e)) e.a.c.c.a false 3,G e.a.c.c.c (.bin .num .lss (t e.a.c.c.b) (k 0)) e.a.c.c.a false 4,o e.a.c.c.f (.pick (t e.a.c.c.a) kt (t e.a.c.c.c)) 5,m e.a.c.f.a e.a.c.c.f 6,G e.a.c.f.b (.move (t e)) e.a.c.f.a false 7,G e.a.c.f.c (.move (t e.c.a)) e.a.c.f.a false 8,G e.a.c.f.f (.lenSlc (t e.a.c.f.c)) e.a.c.f.a false 9,G e.a.f.a.a (.bin .num .geq (t e.a.c.f.b) (t e.a.c.f.f)) e.a.c.f.a false 10,o e.a.f.a.b (.pick (t e.a.c.f.a) kt (t e.a.f.a.a)) 11]).seq (NC.cond (t e.a.f.a.b) ((reg [m e.a.f.a.c e.c 0,m e.b e.a.f.a.c 1]).seq NC.ret) NC.skip)).seq ((regD [m e.a.f.a.f e.c.a 0,m e.a.f.b.a e 1,O e.a.f.b.b (.indexSlc 1 (t e.a.f.a.f) (t e.a.f.b.a)) 3 2,O e.a.f.b.c (.load1 (t e.a.f.b.b)) 7 3,m e.a.f.c.a e.c.b 5,m e.a.f.c.b e 6,O e.a.f.c.c (.indexSlc 1 (t e.a.f.c.a) (t e.a.f.c.b)) 96 7,O e.a.f.c.f (.load1 (t e.a.f.c.c)) 224 8,O e.a.f.b.f (.call (F 7) [t e.a.f.b.c]) 15 4,O e.a.f.f.a (.call (F 8) [t e.a.f.b.f,t e.a.f.c.f]) 511 9,O e.b (.move (t e.a.f.f.a)) 1023 10]).seq NC.ret)))))))))))))),146, [.tmp e.b]⟩
theorem Cj:an Try.prog 4=some (.code F1):=by kernel_rfl
noncomputable def uT:NC:=(((reg [m e.f.a e.a.b 0,m e.f.b e 1,L e.f.c e.f.b 2,b e.f.f .lss (t e.f.a) (t e.f.c) 3]).seq (NC.cond (t e.f.f) NC.skip (NC.exit 0))).seq ((NC.block 1 ((reg [m e.a.a.c e 0,m e.a.a.f e.a.b 1,o e.a.b.a (.indexSlc 1 (t e.a.a.c) (t e.a.a.f)) 2,l e.a.b.b e.a.b.a 3,b e.a.b.c .and (t e.a.b.b) (k 3) 4,m e.a.c e.a.b.c 5]).seq ((reg [m e.a.b.f e.f 0,m e.a.c.a e.a.c 1,o e.a.c.b (.build [.int .i64 (.lit 0),.int .i64 (.lit 0),.int .i64 (.lit 0),.int .u64 (.lit 0)] [(0,1,k 4),(1,1,t e.a.c.a)]) 2,o e.a.c.c (.buildSlice [.int .i64 (.lit 0),.int .i64 (.lit 0),.int .i64 (.lit 0),.int .u64 (.lit 0)] 4 1 26 [(0,4,t e.a.c.b)]) 3,o e.a.c.f (.append 4 32 26 (t e.a.b.f) (t e.a.c.c)) 4,m e.f e.a.c.f 5]).seq (reg [m e.a.f.a e.a.a 0,m e.a.f.b e.a.c 1,o e.a.f.c (.buildSlice [.int .i64 (.lit 0)] 1 1 3 [(0,1,t e.a.f.b)]) 2,o e.a.f.f (.append 1 8 3 (t e.a.f.a) (t e.a.f.c)) 3,m e.a.a e.a.f.f 4])))).seq (reg [m e.a.a.a e.a.b 0,b e.a.a.b .add (t e.a.a.a) (k 1) 1,m e.a.b e.a.a.b 2])))
noncomputable def FK:NFun:=⟨(reg [o e.b (.move kf) 0]).seq ((reg [o e.a.f (.call (F 6) []) 0,m e.c e.a.f 1]).seq (((reg [m e.b.a e.c 0,o e.b.b (.un .not (t e.b.a)) 1,m e.b.c e.b.b 2,G e.b.f (.move (t e)) e.b.c false 3,G e.c.a (.lenSlc (t e.b.f)) e.b.c false 4,G e.c.b (.bin .num .gtr (t e.c.a) (k 200)) e.b.c false 5,o e.c.c (.pick (t e.b.c) kt (t e.c.b)) 6]).seq (NC.cond (t e.c.c) ((reg [m e.c.f e.c 0,m e.b e.c.f 1]).seq NC.ret) NC.skip)).seq ((reg [o e.f (.move kn) 0]).seq ((reg [o e.a.a (.move kn) 0]).seq (((reg [o e.a.b (.move (k 0)) 0]).seq (NC.block 0 uT.loop)).seq ((reg [m e.b.a.a e.f 0,o e.b.a.b (.call (F 7) [t e.b.a.a]) 1,m e.b.a.c e.a.a 2,o e.b.a.f (.call (F 8) [t e.b.a.b,t e.b.a.c]) 3,m e.b e.b.a.f 4]).seq NC.ret)))))),41, [.tmp e.b]⟩
theorem qL:an Try.prog 5=some (.code FK):=by kernel_rfl
noncomputable def F5:NFun:=⟨(reg [o e (.move kf) 0]).seq ((reg [o e.b (.build [.int .i64 (.lit 0),.int .i64 (.lit 0),.int .i64 (.lit 0),.int .u64 (.lit 0)] [(0,1,k 4),(1,1,k 2)]) 0,o e.c (.buildSlice [.int .i64 (.lit 0),.int .i64 (.lit 0),.int .i64 (.lit 0),.int .u64 (.lit 0)] 4 1 26 [(0,4,t e.b)]) 1,o e.f (.call (F 7) [t e.c]) 2,m e.a e.f 3]).seq ((reg [o e.a.a (.call (F 7) [.const .nils]) 0,L e.a.b e.a.a 1,b e.a.c .eql (t e.a.b) (k 0) 2,m e.a.f e.a.c 3,G e.b.a (.move (t e.a)) e.a.f true 4,G e.b.b (.lenSlc (t e.b.a)) e.a.f true 5,G e.b.c (.bin .num .eql (t e.b.b) (k 1)) e.a.f true 6,o e.b.f (.pick (t e.a.f) (t e.b.c) kf) 7,m e.c.a e.b.f 8,G e.c.b (.move (t e.a)) e.c.a true 9,G e.c.c (.indexSlc 1 (t e.c.b) (k 0)) e.c.a true 10,G e.c.f (.load1 (t e.c.c)) e.c.a true 11,G e.f.a (.bin .num .eql (t e.c.f) (k 2)) e.c.a true 12,o e.f.b (.pick (t e.c.a) (t e.f.a) kf) 13,m e e.f.b 14]).seq NC.ret)),19, [.tmp e]⟩
theorem Bs:an Try.prog 6=some (.code F5):=by kernel_rfl
noncomputable def uH:NC:=((reg [b e.b.c .lss (t e.b.b) (t e.b.a) 0]).seq ((NC.cond (t e.b.c) NC.skip (NC.exit 0)).seq ((NC.block 1 ((reg [m e.b.f e.b.b 0,o e.c.a (.indexSlc 4 (t e.a.f) (t e.b.b)) 1,o e.c.b (.loadN 4 (t e.c.a)) 2,o e.a.b (.alloc [.int .i64 (.lit 0),.int .i64 (.lit 0),.int .i64 (.lit 0),.int .u64 (.lit 0)] 26) 3,m e.a.a e.b.f 4,q (.store 4 (t e.a.b) (t e.c.b)) 5]).seq (((reg [f 0 e.c.c e.a.b 0,l e.c.f e.c.c 1,b e.f.a .neq (t e.c.f) (k 8) 2]).seq (NC.cond (t e.f.a) ((reg [m e.f.b e.f 0,m e.f.c e.a.a 1,o e.f.f (.loadN 4 (t e.a.b)) 2,o e.a.a.a (.call (F 10) [t e.f.b,t e.f.c,t e.f.f]) 3]).seq (NC.exit 1)) NC.skip)).seq ((reg [m e.a.a.b e.c 0,m e.a.a.c e.f 1,o e.a.a.f (.call (F 11) [t e.a.a.c]) 2,o e.a.b.a (.append 1 8 3 (t e.a.a.b) (t e.a.a.f)) 3,o e.a.b.b (.buildSlice [.int .i64 (.lit 0)] 1 1 3 [(0,1,k (-1))]) 4,o e.a.b.c (.append 1 8 3 (t e.a.b.a) (t e.a.b.b)) 5,m e.c e.a.b.c 6]).seq (reg [o e.a.b.f (.call (F 9) []) 0,m e.f e.a.b.f 1]))))).seq (reg [b e.a.c.a .add (t e.b.b) (k 1) 0,m e.b.b e.a.c.a 1]))))
noncomputable def FP:NFun:=⟨(reg [o e.b (.move kn) 0]).seq ((reg [o e.c (.move kn) 0]).seq ((reg [o e.a.c (.call (F 9) []) 0,m e.f e.a.c 1]).seq (((reg [m e.a.f e 0,L e.b.a e.a.f 1,o e.b.b (.move (k 0)) 2]).seq (NC.block 0 uH.loop)).seq ((reg [m e.a.c.b e.c 0,m e.a.c.c e.f 1,o e.a.c.f (.call (F 11) [t e.a.c.c]) 2,o e.a.f.a (.append 1 8 3 (t e.a.c.b) (t e.a.c.f)) 3,m e.b e.a.f.a 4]).seq NC.ret)))),34, [.tmp e.b]⟩
theorem ww:an Try.prog 7=some (.code FP):=by kernel_rfl
noncomputable def vn:NC:=(((reg [m e.b.c e.a.a 0,m e.b.f e 1,L e.c.a e.b.f 2,b e.c.b .lss (t e.b.c) (t e.c.a) 3]).seq (NC.cond (t e.c.b) NC.skip (NC.exit 0))).seq ((NC.block 1 ((regD [m e.f.a e 0,m e.f.b e.a.a 1,O e.f.c (.indexSlc 1 (t e.f.a) (t e.f.b)) 3 2,O e.f.f (.load1 (t e.f.c)) 7 3,m e.a.a.a e.a 4,m e.a.a.b e.a.a 5,O e.a.a.c (.indexSlc 1 (t e.a.a.a) (t e.a.a.b)) 48 6,O e.a.a.f (.load1 (t e.a.a.c)) 112 7,O e.a.b.a (.bin .num .neq (t e.f.f) (t e.a.a.f)) 255 8]).seq (NC.cond (t e.a.b.a) ((reg [o e.f (.move kf) 0]).seq NC.ret) NC.skip))).seq (reg [m e.c.c e.a.a 0,b e.c.f .add (t e.c.c) (k 1) 1,m e.a.a e.c.f 2])))
noncomputable def Fv:NFun:=⟨(reg [o e.f (.move kf) 0]).seq (((reg [m e.a.b e 0,L e.a.c e.a.b 1,m e.a.f e.a 2,L e.b.a e.a.f 3,b e.b.b .neq (t e.a.c) (t e.b.a) 4]).seq (NC.cond (t e.b.b) ((reg [o e.f (.move kf) 0]).seq NC.ret) NC.skip)).seq (((reg [o e.a.a (.move (k 0)) 0]).seq (NC.block 0 vn.loop)).seq ((reg [o e.f (.move kt) 0]).seq NC.ret))),26, [.tmp e.f]⟩
theorem wF:an Try.prog 8=some (.code Fv):=by kernel_rfl
noncomputable def FH:NFun:=⟨(reg [o e (.move (.const .nilp)) 0]).seq ((reg [o e.a (.mkMap) 0,o e.b (.mkMap) 1,o e.c (.build [.nilm,.nils,.nilm] [(0,1,t e.a),(2,1,t e.b)]) 2,o e.f (.box (t e.c) 43) 3,m e e.f 4]).seq NC.ret),5, [.tmp e]⟩
theorem uU:an Try.prog 9=some (.code FH):=by kernel_rfl
noncomputable def eO:NC:=(reg [m e.a.b e.b.c.c 0])
noncomputable def eI:NC:=(NC.block 2 (reg [l e.b.c.f e.c 0,m e.b.f.a e.a.b 1,o e.b.f.b (.call (F 13) [t e.b.c.f,t e.b.f.a]) 2]))
noncomputable def Bp:NFun:=⟨(reg [o e.c (.box (t e) 35) 0,o e.a.a (.box (t e.b) 26) 1]).seq ((reg [f 0 e.a.c e.a.a 0,l e.a.f e.a.c 1]).seq (NC.block 0 (((reg [b e.b.b .eql (t e.a.f) (k 1) 0,m e.b.a e.b.b 1]).seq (NC.cond (t e.b.a) NC.skip ((reg [b e.b.c .eql (t e.a.f) (k 2) 0,m e.b.a e.b.c 1]).seq (NC.cond (t e.b.a) NC.skip (reg [b e.b.f .eql (t e.a.f) (k 3) 0,m e.b.a e.b.f 1]))))).seq (NC.cond (t e.b.a) (reg [l e.c.a e.c 0,m e.c.b e.a 1,o e.c.c (.loadN 4 (t e.a.a)) 2,o e.c.f (.call (F 12) [t e.c.a,t e.c.b,t e.c.c]) 3]) ((reg [b e.f.b .eql (t e.a.f) (k 4) 0,m e.f.a e.f.b 1]).seq (NC.cond (t e.f.a) ((reg [l e.f.c e.c 0,f 1 e.f.f e.a.a 1,l e.a.a.a e.f.f 2,o e.a.a.b (.call (F 13) [t e.f.c,t e.a.a.a]) 3]).seq (regD [l e.a.a.c e.c 0,l e.a.a.f e.c 1,O e.a.b.a (.nilCheck (t e.a.a.f)) 2 2,O e.a.b.b (.fieldAddr 1 (t e.a.b.a)) 6 3,O e.a.b.c (.load1 (t e.a.b.b)) 14 4,m e.a.b.f e.a 5,f 1 e.a.c.a e.a.a 6,O e.a.c.b (.load1 (t e.a.c.a)) 64 7,O e.a.c.c (.build [.int .i64 (.lit 0),.int .i64 (.lit 0)] [(0,1,t e.a.b.f),(1,1,t e.a.c.b)]) 224 8,O e.a.c.f (.buildSlice [.int .i64 (.lit 0),.int .i64 (.lit 0)] 2 1 46 [(0,2,t e.a.c.c)]) 480 9,O e.a.f.a (.append 2 16 46 (t e.a.b.c) (t e.a.c.f)) 1022 10,O e.a.f.b (.nilCheck (t e.a.a.c)) 2047 11,O e.a.f.c (.fieldAddr 1 (t e.a.f.b)) 4095 12,⟨none,.store 1 (t e.a.f.c) (t e.a.f.a),none,8191,13⟩])) (((reg [b e.b.a.a .eql (t e.a.f) (k 6) 0,m e.a.f.f e.b.a.a 1]).seq (NC.cond (t e.a.f.f) NC.skip (reg [b e.b.a.b .eql (t e.a.f) (k 10) 0,m e.a.f.f e.b.a.b 1]))).seq (NC.cond (t e.a.f.f) (reg [l e.b.a.c e.c 0,f 1 e.b.a.f e.a.a 1,l e.b.b.a e.b.a.f 2,o e.b.b.b (.call (F 13) [t e.b.a.c,t e.b.b.a]) 3]) ((reg [b e.b.b.f .eql (t e.a.f) (k 9) 0,m e.b.b.c e.b.b.f 1]).seq (NC.cond (t e.b.b.c) ((reg [l e.b.c.a e.c 0,o e.b.c.b (.call (F 14) [t e.b.c.a]) 1]).seq (NC.block 1 (NC.rangeFunc (t e.b.c.b) [e.b.c.c] eO eI))) ((reg [b e.b.f.f .eql (t e.a.f) (k 7) 0,m e.b.f.c e.b.f.f 1]).seq (NC.cond (t e.b.f.c) (regD [l e.c.a.a e.c 0,O e.c.a.b (.nilCheck (t e.c.a.a)) 1 1,O e.c.a.c (.fieldAddr 2 (t e.c.a.b)) 3 2,O e.c.a.f (.load1 (t e.c.a.c)) 7 3,f 2 e.c.b.a e.a.a 4,O e.c.b.b (.load1 (t e.c.b.a)) 16 5,m e.c.b.c e.a 6,O e.c.b.f (.bin .num .add (t e.c.b.c) (k 1)) 64 7,⟨none,.mapUpdate false (t e.c.a.f) (t e.c.b.b) (t e.c.b.f),none,255,8⟩]) NC.skip)))))))))))),61, []⟩
theorem rW:an Try.prog 10=some (.code Bp):=by kernel_rfl
noncomputable def dI:NC:=(reg [m e.c e.b.a 0])
noncomputable def dL:NC:=(NC.block 1 ((regD [l e.b.b e.a 0,l e.b.c e.a 1,O e.b.f (.nilCheck (t e.b.c)) 2 2,O e.c.a (.fieldAddr 0 (t e.b.f)) 6 3,O e.c.b (.load1 (t e.c.a)) 14 4,m e.c.c e.c 5,O e.c.f (.lookup false (.agg [.int .i64 (.lit 0),.int .i64 (.lit 0),.int .i64 (.lit 0),.int .u64 (.lit 0),.int .i64 (.lit 0),.bool false]) false (t e.c.b) (t e.c.c)) 62 6,O e.f.a (.call (F 15) [t e.b.b,t e.c.f]) 127 7]).seq (NC.cond (t e.f.a) (reg [l e.f.b e.a 0,m e.f.c e.c 1,o e.f.f (.call (F 13) [t e.f.b,t e.f.c]) 2]) NC.skip)))
noncomputable def mT:NC:=((reg [b e.a.c.f .lss (t e.a.c.c) (t e.a.c.b) 0]).seq ((NC.cond (t e.a.c.f) NC.skip (NC.exit 2)).seq ((NC.block 3 ((reg [o e.a.f.a (.indexSlc 2 (t e.a.c.a) (t e.a.c.c)) 0,o e.a.f.b (.loadN 2 (t e.a.f.a)) 1,o e.a.b (.alloc [.int .i64 (.lit 0),.int .i64 (.lit 0)] 46) 2,q (.store 2 (t e.a.b) (t e.a.f.b)) 3]).seq (reg [m e.a.f.c e.f 0,f 1 e.a.f.f e.a.b 1,l e.b.a.a e.a.f.f 2,o e.b.a.b (.buildSlice [.int .i64 (.lit 0)] 1 1 3 [(0,1,t e.b.a.a)]) 3,o e.b.a.c (.append 1 8 3 (t e.a.f.c) (t e.b.a.b)) 4,m e.f e.b.a.c 5]))).seq (reg [b e.b.a.f .add (t e.a.c.c) (k 1) 0,m e.a.c.c e.b.a.f 1]))))
noncomputable def BO:NFun:=⟨(reg [o e.a (.box (t e) 35) 0,o e.b (.move kn) 1]).seq (((reg [l e.a.c e.a 0,o e.a.f (.call (F 14) [t e.a.c]) 1]).seq (NC.block 0 (NC.rangeFunc (t e.a.f) [e.b.a] dI dL))).seq ((reg [l e.a.a.a e.a 0,n e.a.a.b e.a.a.a 1,f 1 e.a.a.c e.a.a.b 2,l e.a.a.f e.a.a.c 3,o e.a.b.a (.call (F 16) [t e.a.a.f,.const (.fn 17 [])]) 4]).seq ((reg [o e.f (.move kn) 0]).seq (((reg [l e.a.b.b e.a 0,n e.a.b.c e.a.b.b 1,f 1 e.a.b.f e.a.b.c 2,l e.a.c.a e.a.b.f 3,L e.a.c.b e.a.c.a 4,o e.a.c.c (.move (k 0)) 5]).seq (NC.block 2 mT.loop)).seq ((reg [m e.b.b.a e.f 0,m e.b e.b.b.a 1]).seq NC.ret))))),42, [.tmp e.b]⟩
theorem sr:an Try.prog 11=some (.code BO):=by kernel_rfl
noncomputable def AE:NFun:=⟨(reg [o e.a.a (.box (t e.b) 26) 0]).seq (((reg [m e.a.b e 0,o e.a.c (.loadN 4 (t e.a.a)) 1,o e.a.f (.call (F 19) [t e.a.b,t e.a.c]) 2,o e.b.a (.un .not (t e.a.f)) 3]).seq (NC.cond (t e.b.a) (reg [m e.b.b e 0,f 1 e.b.c e.a.a 1,l e.b.f e.b.c 2,o e.c.a (.call (F 13) [t e.b.b,t e.b.f]) 3]) NC.skip)).seq (regD [m e.c.b e 0,O e.c.c (.nilCheck (t e.c.b)) 1 1,O e.c.f (.fieldAddr 0 (t e.c.c)) 3 2,O e.f.a (.load1 (t e.c.f)) 7 3,f 1 e.f.b e.a.a 4,O e.f.c (.load1 (t e.f.b)) 16 5,o e.f.f (.loadN 4 (t e.a.a)) 6,m e.a.a.a e.a 7,f 0 e.a.a.b e.a.a 8,O e.a.a.c (.load1 (t e.a.a.b)) 256 9,O e.a.a.f (.bin .num .eql (t e.a.a.c) (k 2)) 768 10,O e.a.b.a (.build [.int .i64 (.lit 0),.int .i64 (.lit 0),.int .i64 (.lit 0),.int .u64 (.lit 0),.int .i64 (.lit 0),.bool false] [(0,4,t e.f.f),(4,1,t e.a.a.a),(5,1,t e.a.a.f)]) 1984 11,⟨none,.mapUpdate false (t e.f.a) (t e.f.c) (t e.a.b.a),none,4095,12⟩])),26, []⟩
theorem sf:an Try.prog 12=some (.code AE):=by kernel_rfl
noncomputable def Cb:NFun:=⟨(reg [m e.a.c e 0,n e.a.f e.a.c 1,f 0 e.b.a e.a.f 2,l e.b.b e.b.a 3,m e.b.c e.a 4,o e.b.f (.lookup false (.agg [.int .i64 (.lit 0),.int .i64 (.lit 0),.int .i64 (.lit 0),.int .u64 (.lit 0),.int .i64 (.lit 0),.bool false]) true (t e.b.b) (t e.b.c)) 5,m e.a.b e.b.f 6,x e.c.a e.a.b 0 7,x e.c.b e.a.b 1 8,o e.f (.alloc [.int .i64 (.lit 0),.int .i64 (.lit 0),.int .i64 (.lit 0),.int .u64 (.lit 0),.int .i64 (.lit 0),.bool false] 52) 9,q (.store 6 (t e.f) (t e.c.a)) 10,m e.a.a e.c.b 11]).seq ((reg [m e.c.c e.a.a 0]).seq (NC.cond (t e.c.c) ((regD [m e.c.f e 0,m e.f.a e 1,O e.f.b (.nilCheck (t e.f.a)) 2 2,O e.f.c (.fieldAddr 1 (t e.f.b)) 6 3,O e.f.f (.load1 (t e.f.c)) 14 4,f 4 e.a.a.a e.f 5,O e.a.a.b (.load1 (t e.a.a.a)) 32 6,m e.a.a.c e.a 7,O e.a.a.f (.build [.int .i64 (.lit 0),.int .i64 (.lit 0)] [(0,1,t e.a.a.b),(1,1,t e.a.a.c)]) 224 8,O e.a.b.a (.buildSlice [.int .i64 (.lit 0),.int .i64 (.lit 0)] 2 1 46 [(0,2,t e.a.a.f)]) 480 9,O e.a.b.b (.append 2 16 46 (t e.f.f) (t e.a.b.a)) 1022 10,O e.a.b.c (.nilCheck (t e.c.f)) 2047 11,O e.a.b.f (.fieldAddr 1 (t e.a.b.c)) 4095 12,⟨none,.store 1 (t e.a.b.f) (t e.a.b.b),none,8191,13⟩]).seq (reg [m e.a.c.a e 0,n e.a.c.b e.a.c.a 1,f 0 e.a.c.c e.a.c.b 2,l e.a.c.f e.a.c.c 3,m e.a.f.a e.a 4,q (.delete false (t e.a.c.f) (t e.a.f.a)) 5])) NC.skip)),34, []⟩
theorem sx:an Try.prog 13=some (.code Cb):=by kernel_rfl
noncomputable def Bc:NFun:=⟨(reg [o e.b (.move (.const .nilf)) 0]).seq ((reg [m e.c e 0,n e.f e.c 1,f 0 e.a.a e.f 2,l e.a.b e.a.a 3,o e.a.c (.call (F 22) [t e.a.b]) 4,o e.a.f (.call (F 21) [t e.a.c]) 5,o e.b.a (.call (F 20) [t e.a.f]) 6,m e.b e.b.a 7]).seq NC.ret),10, [.tmp e.b]⟩
theorem sB:an Try.prog 14=some (.code Bc):=by kernel_rfl
noncomputable def BG:NFun:=⟨(reg [o e.c (.box (t e.a) 52) 0,o e.f (.move kf) 1]).seq ((regD [f 0 e.a.a e.c 0,O e.a.b (.fieldAddr 0 (t e.a.a)) 1 1,O e.a.c (.load1 (t e.a.b)) 3 2,O e.a.f (.bin .num .eql (t e.a.c) (k 3)) 7 3,O e.b.a (.move (t e.a.f)) 15 4,⟨some e.b.b,.move (t e),some (e.b.a,true),31,5⟩,⟨some e.b.c,.nilCheck (t e.b.b),some (e.b.a,true),63,6⟩,⟨some e.b.f,.fieldAddr 2 (t e.b.c),some (e.b.a,true),127,7⟩,⟨some e.c.a,.load1 (t e.b.f),some (e.b.a,true),255,8⟩,⟨some e.c.b,.fieldAddr 0 (t e.c),some (e.b.a,true),31,9⟩,⟨some e.c.c,.fieldAddr 2 (t e.c.b),some (e.b.a,true),543,10⟩,⟨some e.c.f,.load1 (t e.c.c),some (e.b.a,true),1567,11⟩,⟨some e.f.c,.fieldAddr 4 (t e.c),some (e.b.a,true),31,14⟩,⟨some e.f.f,.load1 (t e.f.c),some (e.b.a,true),16415,15⟩,⟨some e.f.a,.call (F 23) [t e.c.f],some (e.b.a,true),3615,12⟩,⟨some e.f.b,.lookup false (.int .i64 (.lit 0)) false (t e.c.a) (t e.f.a),some (e.b.a,true),8191,13⟩,⟨some e.a.a.a,.bin .num .gtr (t e.f.b) (t e.f.f),some (e.b.a,true),65535,16⟩,O e.a.a.b (.pick (t e.b.a) (t e.a.a.a) kf) 131071 17,O e.f (.move (t e.a.a.b)) 262143 18]).seq NC.ret),23, [.tmp e.f]⟩
theorem rD:an Try.prog 15=some (.code BG):=by kernel_rfl
noncomputable def Ea:NFun:=⟨(reg [m e.a.a e 0,L e.a.b e.a.a 1,m e.f e.a.b 2]).seq (reg [m e.a.c e 0,m e.a.f e.f 1,m e.b.a e.f 2,o e.b.b (.toInt .u64 (t e.b.a)) 3,o e.b.c (.call (F 25) [t e.b.b]) 4,m e.b.f e.a 5,o e.c.a (.call (F 24) [t e.a.c,k 0,t e.a.f,t e.b.c,t e.b.f]) 6]),14, []⟩
theorem xO:an Try.prog 16=some (.code Ea):=by kernel_rfl
noncomputable def Cu:NFun:=⟨(reg [o e.b (.box (t e) 46) 0,o e.c (.box (t e.a) 46) 1,o e.f (.move (k 0)) 2]).seq ((reg [f 0 e.a.a e.b 0,l e.a.b e.a.a 1,f 0 e.a.c e.c 2,l e.a.f e.a.c 3,o e.b.a (.call (F 18) [t e.a.b,t e.a.f]) 4,m e.f e.b.a 5]).seq NC.ret),10, [.tmp e.f]⟩
theorem xD:an Try.prog 17=some (.code Cu):=by kernel_rfl
noncomputable def Do:NFun:=⟨(reg [o e.f (.move (k 0)) 0]).seq ((reg [m e.a.c e 0,o e.a.f (.call (F 26) [t e.a.c]) 1,m e.a.a e.a.f 2]).seq ((reg [m e.b.a e.a 0,o e.b.b (.call (F 26) [t e.b.a]) 1,m e.a.b e.b.b 2]).seq (((reg [m e.b.c e.a.a 0]).seq (NC.cond (t e.b.c) (((reg [m e.b.f e.a.b 0]).seq (NC.cond (t e.b.f) ((reg [o e.f (.move (k 0)) 0]).seq NC.ret) NC.skip)).seq ((reg [o e.f (.move (k (-1))) 0]).seq NC.ret)) NC.skip)).seq (((reg [m e.c.a e.a.b 0]).seq (NC.cond (t e.c.a) ((reg [o e.f (.move (k 1)) 0]).seq NC.ret) NC.skip)).seq (((reg [m e.c.b e 0,m e.c.c e.a 1,b e.c.f .lss (t e.c.b) (t e.c.c) 2]).seq (NC.cond (t e.c.f) ((reg [o e.f (.move (k (-1))) 0]).seq NC.ret) NC.skip)).seq (((reg [m e.f.a e 0,m e.f.b e.a 1,b e.f.c .gtr (t e.f.a) (t e.f.b) 2]).seq (NC.cond (t e.f.c) ((reg [o e.f (.move (k 1)) 0]).seq NC.ret) NC.skip)).seq ((reg [o e.f (.move (k 0)) 0]).seq NC.ret))))))),20, [.tmp e.f]⟩
theorem zw:an Try.prog 18=some (.code Do):=by kernel_rfl
noncomputable def Cg:NFun:=⟨(reg [o e.c (.box (t e.a) 26) 0,o e.f (.move kf) 1]).seq ((regD [m e.a.f e 0,O e.b.a (.nilCheck (t e.a.f)) 1 1,O e.b.b (.fieldAddr 0 (t e.b.a)) 3 2,O e.b.c (.load1 (t e.b.b)) 7 3,f 1 e.b.f e.c 4,O e.c.a (.load1 (t e.b.f)) 16 5,O e.c.b (.lookup false (.agg [.int .i64 (.lit 0),.int .i64 (.lit 0),.int .i64 (.lit 0),.int .u64 (.lit 0),.int .i64 (.lit 0),.bool false]) true (t e.b.c) (t e.c.a)) 63 6,O e.a.c (.move (t e.c.b)) 127 7,O e.c.c (.extract (t e.a.c) 0) 255 8,O e.c.f (.extract (t e.a.c) 1) 255 9,o e.a.a (.alloc [.int .i64 (.lit 0),.int .i64 (.lit 0),.int .i64 (.lit 0),.int .u64 (.lit 0),.int .i64 (.lit 0),.bool false] 52) 10,⟨none,.store 6 (t e.a.a) (t e.c.c),none,1535,11⟩,O e.a.b (.move (t e.c.f)) 4095 12]).seq ((reg [m e.f.a e.a.b 0,m e.f.b e.f.a 1,G e.f.c (.fieldAddr 5 (t e.a.a)) e.f.b true 2,G e.f.f (.load1 (t e.f.c)) e.f.b true 3,o e.a.a.a (.pick (t e.f.b) (t e.f.f) kf) 4,m e.a.a.b e.a.a.a 5,G e.a.a.c (.fieldAddr 0 (t e.a.a)) e.a.a.b true 6,G e.a.a.f (.fieldAddr 2 (t e.a.a.c)) e.a.a.b true 7,G e.a.b.a (.load1 (t e.a.a.f)) e.a.a.b true 8,G e.a.b.b (.fieldAddr 2 (t e.c)) e.a.a.b true 9,G e.a.b.c (.load1 (t e.a.b.b)) e.a.a.b true 10,G e.a.b.f (.bin .num .eql (t e.a.b.a) (t e.a.b.c)) e.a.a.b true 11,o e.a.c.a (.pick (t e.a.a.b) (t e.a.b.f) kf) 12,m e.a.c.b e.a.c.a 13,G e.a.c.c (.fieldAddr 0 (t e.c)) e.a.c.b true 14,G e.a.c.f (.load1 (t e.a.c.c)) e.a.c.b true 15,G e.a.f.a (.bin .num .eql (t e.a.c.f) (k 2)) e.a.c.b true 16,G e.a.f.b (.move (t e.a.f.a)) e.a.c.b true 17,G e.a.f.c (.fieldAddr 0 (t e.c)) e.a.f.b false 18,G e.a.f.f (.load1 (t e.a.f.c)) e.a.f.b false 19,G e.b.a.a (.bin .num .eql (t e.a.f.f) (k 3)) e.a.f.b false 20,G e.b.a.b (.pick (t e.a.f.b) kt (t e.b.a.a)) e.a.c.b true 21,o e.b.a.c (.pick (t e.a.c.b) (t e.b.a.b) kf) 22,m e.f e.b.a.c 23]).seq NC.ret)),40, [.tmp e.f]⟩
theorem sC:an Try.prog 19=some (.code Cg):=by kernel_rfl
noncomputable def Bw:NFun:=⟨(reg [o e.a (.box (t e) 27) 0,o e.b (.move (.const .nilf)) 1]).seq ((reg [o e.c (.mkFn 27 [t e.a]) 0,m e.b e.c 1]).seq NC.ret),4, [.tmp e.b]⟩
theorem sD:an Try.prog 20=some (.code Bw):=by kernel_rfl
noncomputable def Cy:NFun:=⟨(reg [o e.b (.move kn) 0]).seq ((reg [m e.f e 0,o e.a.a (.call (F 28) [t e.f]) 1,m e.c e.a.a 2]).seq ((reg [m e.a.b e.c 0,o e.a.c (.call (F 29) [t e.a.b]) 1]).seq ((reg [m e.a.f e.c 0,m e.b e.a.f 1]).seq NC.ret))),9, [.tmp e.b]⟩
theorem xz:an Try.prog 21=some (.code Cy):=by kernel_rfl
noncomputable def Eh:NFun:=⟨(reg [o e.a (.box (t e) 39) 0,o e.b (.move (.const .nilf)) 1]).seq ((reg [o e.c (.mkFn 30 [t e.a]) 0,m e.b e.c 1]).seq NC.ret),4, [.tmp e.b]⟩
theorem zm:an Try.prog 22=some (.code Eh):=by kernel_rfl
noncomputable def B2:NFun:=⟨(reg [o e.b (.move (k 0)) 0]).seq (((reg [m e.c e 0,b e.f .lss (t e.c) (k 4096) 1]).seq (NC.cond (t e.f) ((reg [o e.b (.move (k (-1))) 0]).seq NC.ret) NC.skip)).seq ((reg [m e.a.a e 0,b e.a.b .sub (t e.a.a) (k 4096) 1,b e.a.c .quo (t e.a.b) (k 64) 2,m e.b e.a.c 3]).seq NC.ret)),8, [.tmp e.b]⟩
theorem sE:an Try.prog 23=some (.code B2):=by kernel_rfl
noncomputable def zN:NC:=(NC.block 1 ((reg [m e.a.a.a e.b 0,m e.a.a.b e.a 1,b e.a.a.c .sub (t e.a.a.a) (t e.a.a.b) 2,m e.b.f e.a.a.c 3]).seq (((reg [m e.a.a.f e.b.f 0,b e.a.b.a .leq (t e.a.a.f) (k 12) 1]).seq (NC.cond (t e.a.b.a) ((reg [m e.a.b.b e 0,m e.a.b.c e.a 1,m e.a.b.f e.b 2,m e.a.c.a e.f 3,o e.a.c.b (.call (F 31) [t e.a.b.b,t e.a.b.c,t e.a.b.f,t e.a.c.a]) 4]).seq NC.ret) NC.skip)).seq (((reg [m e.a.c.c e.c 0,b e.a.c.f .eql (t e.a.c.c) (k 0) 1]).seq (NC.cond (t e.a.c.f) ((reg [m e.a.f.a e 0,m e.a.f.b e.a 1,m e.a.f.c e.b 2,m e.a.f.f e.f 3,o e.b.a.a (.call (F 32) [t e.a.f.a,t e.a.f.b,t e.a.f.c,t e.a.f.f]) 4]).seq NC.ret) NC.skip)).seq (((reg [m e.b.a.b e.b.b 0,o e.b.a.c (.un .not (t e.b.a.b)) 1]).seq (NC.cond (t e.b.a.c) ((reg [m e.b.a.f e 0,m e.b.b.a e.a 1,m e.b.b.b e.b 2,m e.b.b.c e.f 3,o e.b.b.f (.call (F 33) [t e.b.a.f,t e.b.b.a,t e.b.b.b,t e.b.b.c]) 4]).seq (reg [m e.b.c.a e.c 0,b e.b.c.b .sub (t e.b.c.a) (k 1) 1,m e.c e.b.c.b 2])) NC.skip)).seq ((reg [m e.b.c.f e 0,m e.b.f.a e.a 1,m e.b.f.b e.b 2,m e.b.f.c e.f 3,o e.b.f.f (.call (F 34) [t e.b.c.f,t e.b.f.a,t e.b.f.b,t e.b.f.c]) 4,m e.b.c.c e.b.f.f 5,x e.c.a.a e.b.c.c 0 6,x e.c.a.b e.b.c.c 1 7,m e.c.a e.c.a.a 8,m e.c.b e.c.a.b 9]).seq (((reg [m e.c.a.c e.c.b 0,b e.c.a.f .eql (t e.c.a.c) (k 2) 1]).seq (NC.cond (t e.c.a.f) ((reg [m e.c.b.a e 0,m e.c.b.b e.a 1,m e.c.b.c e.b 2,m e.c.b.f e.f 3,o e.c.c.a (.call (F 35) [t e.c.b.a,t e.c.b.b,t e.c.b.c,t e.c.b.f]) 4]).seq ((reg [m e.c.c.b e.b 0,b e.c.c.c .sub (t e.c.c.b) (k 1) 1,m e.c.c.f e.c.a 2,m e.c.f.a e.a 3,b e.c.f.b .sub (t e.c.c.f) (t e.c.f.a) 4,b e.c.f.c .sub (t e.c.c.c) (t e.c.f.b) 5,m e.c.a e.c.f.c 6]).seq (reg [o e.c.b (.move (k 1)) 0]))) NC.skip)).seq (((reg [m e.c.f.f e.b.b 0,m e.f.a.a e.c.f.f 1,G e.f.a.b (.move (t e.b.c)) e.f.a.a true 2,o e.f.a.c (.pick (t e.f.a.a) (t e.f.a.b) kf) 3,m e.f.a.f e.f.a.c 4,G e.f.b.a (.move (t e.c.b)) e.f.a.f true 5,G e.f.b.b (.bin .num .eql (t e.f.b.a) (k 1)) e.f.a.f true 6,o e.f.b.c (.pick (t e.f.a.f) (t e.f.b.b) kf) 7]).seq (NC.cond (t e.f.b.c) ((reg [m e.f.b.f e 0,m e.f.c.a e.a 1,m e.f.c.b e.b 2,m e.f.c.c e.f 3,o e.f.c.f (.call (F 36) [t e.f.b.f,t e.f.c.a,t e.f.c.b,t e.f.c.c]) 4]).seq (NC.cond (t e.f.c.f) NC.ret NC.skip)) NC.skip)).seq (((regD [m e.f.f.a e.a 0,O e.f.f.b (.bin .num .gtr (t e.f.f.a) (k 0)) 1 1,O e.f.f.c (.move (t e.f.f.b)) 3 2,⟨some e.f.f.f,.move (t e.f),some (e.f.f.c,true),7,3⟩,⟨some e.a.a.a.a,.move (t e),some (e.f.f.c,true),7,4⟩,⟨some e.a.a.a.b,.move (t e.a),some (e.f.f.c,true),7,5⟩,⟨some e.a.a.a.c,.bin .num .sub (t e.a.a.a.b) (k 1),some (e.f.f.c,true),39,6⟩,⟨some e.a.a.a.f,.indexSlc 2 (t e.a.a.a.a) (t e.a.a.a.c),some (e.f.f.c,true),119,7⟩,⟨some e.a.a.b.a,.loadN 2 (t e.a.a.a.f),some (e.f.f.c,true),247,8⟩,⟨some e.a.a.b.b,.move (t e),some (e.f.f.c,true),7,9⟩,⟨some e.a.a.b.c,.move (t e.c.a),some (e.f.f.c,true),7,10⟩,⟨some e.a.a.b.f,.indexSlc 2 (t e.a.a.b.b) (t e.a.a.b.c),some (e.f.f.c,true),1543,11⟩,⟨some e.a.a.c.a,.loadN 2 (t e.a.a.b.f),some (e.f.f.c,true),3591,12⟩,⟨some e.a.a.c.b,.call (t e.f.f.f) [t e.a.a.b.a,t e.a.a.c.a],some (e.f.f.c,true),8191,13⟩,⟨some e.a.a.c.c,.bin .num .lss (t e.a.a.c.b) (k 0),some (e.f.f.c,true),16383,14⟩,⟨some e.a.a.c.f,.un .not (t e.a.a.c.c),some (e.f.f.c,true),32767,15⟩,O e.a.a.f.a (.pick (t e.f.f.c) (t e.a.a.c.f) kf) 65535 16]).seq (NC.cond (t e.a.a.f.a) ((reg [m e.a.a.f.b e 0,m e.a.a.f.c e.a 1,m e.a.a.f.f e.b 2,m e.a.b.a.a e.c.a 3,m e.a.b.a.b e.f 4,o e.a.b.a.c (.call (F 37) [t e.a.a.f.b,t e.a.a.f.c,t e.a.a.f.f,t e.a.b.a.a,t e.a.b.a.b]) 5,m e.c.c e.a.b.a.c 6]).seq ((reg [m e.a.b.a.f e.c.c 0,m e.a e.a.b.a.f 1]).seq (NC.exit 1))) NC.skip)).seq ((reg [m e.a.b.b.b e 0,m e.a.b.b.c e.a 1,m e.a.b.b.f e.b 2,m e.a.b.c.a e.c.a 3,m e.a.b.c.b e.f 4,o e.a.b.c.c (.call (F 38) [t e.a.b.b.b,t e.a.b.b.c,t e.a.b.b.f,t e.a.b.c.a,t e.a.b.c.b]) 5,m e.a.b.b.a e.a.b.c.c 6,x e.a.b.c.f e.a.b.b.a 0 7,x e.a.b.f.a e.a.b.b.a 1 8,m e.c.f e.a.b.c.f 9,m e.f.a e.a.b.f.a 10]).seq ((reg [m e.a.b.f.b e.f.a 0,m e.b.c e.a.b.f.b 1]).seq ((reg [m e.a.b.f.c e.c.f 0,m e.a.b.f.f e.a 1,b e.a.c.a.a .sub (t e.a.b.f.c) (t e.a.b.f.f) 2,m e.a.c.a.b e.b 3,m e.a.c.a.c e.c.f 4,b e.a.c.a.f .sub (t e.a.c.a.b) (t e.a.c.a.c) 5,m e.f.b e.a.c.a.a 6,m e.f.c e.a.c.a.f 7]).seq ((reg [m e.a.c.b.a e.b.f 0,b e.a.c.b.b .quo (t e.a.c.b.a) (k 8) 1,m e.f.f e.a.c.b.b 2]).seq ((reg [m e.a.c.b.c e.f.b 0,m e.a.c.b.f e.f.c 1,b e.a.c.c.a .lss (t e.a.c.b.c) (t e.a.c.b.f) 2]).seq (NC.cond (t e.a.c.c.a) ((reg [m e.a.c.c.b e.f.b 0,m e.a.c.c.c e.f.f 1,b e.a.c.c.f .geq (t e.a.c.c.b) (t e.a.c.c.c) 2,m e.b.b e.a.c.c.f 3]).seq ((reg [m e.a.c.f.a e 0,m e.a.c.f.b e.a 1,m e.a.c.f.c e.c.f 2,m e.a.c.f.f e.c 3,m e.a.f.a.a e.f 4,o e.a.f.a.b (.call (F 24) [t e.a.c.f.a,t e.a.c.f.b,t e.a.c.f.c,t e.a.c.f.f,t e.a.f.a.a]) 5]).seq (reg [m e.a.f.a.c e.c.f 0,b e.a.f.a.f .add (t e.a.f.a.c) (k 1) 1,m e.a e.a.f.a.f 2]))) ((reg [m e.a.f.b.a e.f.c 0,m e.a.f.b.b e.f.f 1,b e.a.f.b.c .geq (t e.a.f.b.a) (t e.a.f.b.b) 2,m e.b.b e.a.f.b.c 3]).seq ((reg [m e.a.f.b.f e 0,m e.a.f.c.a e.c.f 1,b e.a.f.c.b .add (t e.a.f.c.a) (k 1) 2,m e.a.f.c.c e.b 3,m e.a.f.c.f e.c 4,m e.a.f.f.a e.f 5,o e.a.f.f.b (.call (F 24) [t e.a.f.b.f,t e.a.f.c.b,t e.a.f.c.c,t e.a.f.c.f,t e.a.f.f.a]) 6]).seq (reg [m e.a.f.f.c e.c.f 0,m e.b e.a.f.f.c 1]))))))))))))))))))
noncomputable def DP:NFun:=⟨(reg [o e.b.b (.move kt) 0]).seq ((reg [o e.b.c (.move kt) 0]).seq (NC.block 0 zN.loop)),148, []⟩
theorem x6:an Try.prog 24=some (.code DP):=by kernel_rfl
noncomputable def Er:NFun:=⟨(reg [o e.b (.move (k 0)) 0]).seq ((NC.cond kf ((reg [m e.c e 0,o e.f (.toInt .u32 (t e.c)) 1,o e.a.a (.call (F 39) [t e.f]) 2,m e.b e.a.a 3]).seq NC.ret) NC.skip).seq ((reg [m e.a.b e 0,o e.a.c (.call (F 40) [t e.a.b]) 1,m e.b e.a.c 2]).seq NC.ret)),8, [.tmp e.b]⟩
theorem z7:an Try.prog 25=some (.code Er):=by kernel_rfl
noncomputable def DB:NFun:=⟨(reg [o e.b (.move kf) 0]).seq ((reg [m e.c e 0,m e.f e 1,b e.a.a .neq (t e.c) (t e.f) 2,m e.b e.a.a 3]).seq NC.ret),6, [.tmp e.b]⟩
theorem xk:an Try.prog 26=some (.code DB):=by kernel_rfl
noncomputable def rV:NC:=((reg [b e.a.f .lss (t e.a.c) (t e.a.b) 0]).seq ((NC.cond (t e.a.f) NC.skip (NC.exit 0)).seq ((NC.block 1 ((reg [o e.b.a (.indexSlc 1 (t e.a.a) (t e.a.c)) 0,l e.b.b e.b.a 1,m e.f e.b.b 2]).seq ((reg [m e.b.c e 0,m e.b.f e.f 1,o e.c.a (.call (t e.b.c) [t e.b.f]) 2,o e.c.b (.un .not (t e.c.a)) 3]).seq (NC.cond (t e.c.b) NC.ret NC.skip)))).seq (reg [b e.c.c .add (t e.a.c) (k 1) 0,m e.a.c e.c.c 1]))))
noncomputable def AZ:NFun:=⟨(reg [l e.a.a e.a 0,L e.a.b e.a.a 1,o e.a.c (.move (k 0)) 2]).seq (NC.block 0 rV.loop),16, []⟩
theorem rU:an Try.prog 27=some (.code AZ):=by kernel_rfl
noncomputable def D0:NFun:=⟨(reg [o e.b (.move kn) 0]).seq ((reg [m e.c e 0,o e.f (.call (F 41) [.const .nils,t e.c]) 1,m e.b e.f 2]).seq NC.ret),5, [.tmp e.b]⟩
theorem yj:an Try.prog 28=some (.code D0):=by kernel_rfl
noncomputable def Cp:NFun:=⟨(reg [m e.c e 0,L e.f e.c 1,m e.b e.f 2]).seq (reg [m e.a.a e 0,m e.a.b e.b 1,m e.a.c e.b 2,o e.a.f (.toInt .u64 (t e.a.c)) 3,o e.b.a (.call (F 25) [t e.a.f]) 4,o e.b.b (.call (F 42) [t e.a.a,k 0,t e.a.b,t e.b.a]) 5]),11, []⟩
theorem xL:an Try.prog 29=some (.code Cp):=by kernel_rfl
noncomputable def yQ:NC:=((reg [o e.a.b (.fail) 0,x e.a.c e.a.b 0 1]).seq ((NC.cond (t e.a.c) NC.skip (NC.exit 0)).seq (NC.block 1 ((reg [o e.a.f (.fail) 0,x e.b.a e.a.f 0 1,m e.c e.b.a 2]).seq ((reg [m e.b.b e 0,m e.b.c e.c 1,o e.b.f (.call (t e.b.b) [t e.b.c]) 2,o e.c.a (.un .not (t e.b.f)) 3]).seq (NC.cond (t e.c.a) NC.ret NC.skip))))))
noncomputable def CG:NFun:=⟨(reg [l e.f e.a 0,o e.a.a (.fail) 1]).seq (NC.block 0 yQ.loop),14, []⟩
theorem zR:an Try.prog 30=some (.code CG):=by kernel_rfl
noncomputable def xM:NC:=(((regD [m e.f.b e.b.a 0,m e.f.c e.a 1,O e.f.f (.bin .num .gtr (t e.f.b) (t e.f.c)) 3 2,O e.a.a.a (.move (t e.f.f)) 7 3,⟨some e.a.a.b,.move (t e.c),some (e.a.a.a,true),15,4⟩,⟨some e.a.a.c,.move (t e),some (e.a.a.a,true),15,5⟩,⟨some e.a.a.f,.move (t e.b.a),some (e.a.a.a,true),15,6⟩,⟨some e.a.b.a,.indexSlc 2 (t e.a.a.c) (t e.a.a.f),some (e.a.a.a,true),111,7⟩,⟨some e.a.b.b,.loadN 2 (t e.a.b.a),some (e.a.a.a,true),239,8⟩,⟨some e.a.b.c,.move (t e),some (e.a.a.a,true),15,9⟩,⟨some e.a.b.f,.move (t e.b.a),some (e.a.a.a,true),15,10⟩,⟨some e.a.c.a,.bin .num .sub (t e.a.b.f) (k 1),some (e.a.a.a,true),1039,11⟩,⟨some e.a.c.b,.indexSlc 2 (t e.a.b.c) (t e.a.c.a),some (e.a.a.a,true),3599,12⟩,⟨some e.a.c.c,.loadN 2 (t e.a.c.b),some (e.a.a.a,true),7695,13⟩,⟨some e.a.c.f,.call (t e.a.a.b) [t e.a.b.b,t e.a.c.c],some (e.a.a.a,true),16383,14⟩,⟨some e.a.f.a,.bin .num .lss (t e.a.c.f) (k 0),some (e.a.a.a,true),32767,15⟩,O e.a.f.b (.pick (t e.a.a.a) (t e.a.f.a) kf) 65535 16]).seq (NC.cond (t e.a.f.b) NC.skip (NC.exit 2))).seq ((NC.block 3 (regD [m e.b.a.a e 0,m e.b.a.b e.b.a 1,m e.b.a.c e 2,m e.b.a.f e.b.a 3,O e.b.b.a (.bin .num .sub (t e.b.a.f) (k 1)) 8 4,m e.b.b.b e 5,m e.b.b.c e.b.a 6,O e.b.b.f (.bin .num .sub (t e.b.b.c) (k 1)) 64 7,O e.b.c.a (.indexSlc 2 (t e.b.b.b) (t e.b.b.f)) 224 8,O e.b.c.b (.loadN 2 (t e.b.c.a)) 480 9,m e.b.c.c e 10,m e.b.c.f e.b.a 11,O e.b.f.a (.indexSlc 2 (t e.b.c.c) (t e.b.c.f)) 3072 12,O e.b.f.b (.loadN 2 (t e.b.f.a)) 7168 13,O e.b.f.c (.indexSlc 2 (t e.b.a.a) (t e.b.a.b)) 16355 14,⟨none,.store 2 (t e.b.f.c) (t e.b.c.b),none,32739,15⟩,O e.b.f.f (.indexSlc 2 (t e.b.a.c) (t e.b.b.a)) 65535 16,⟨none,.store 2 (t e.b.f.f) (t e.b.f.b),none,131071,17⟩])).seq (reg [m e.a.f.c e.b.a 0,b e.a.f.f .sub (t e.a.f.c) (k 1) 1,m e.b.a e.a.f.f 2])))
noncomputable def yC:NC:=(((reg [m e.b.f e.a.f 0,m e.c.a e.b 1,b e.c.b .lss (t e.b.f) (t e.c.a) 2]).seq (NC.cond (t e.c.b) NC.skip (NC.exit 0))).seq ((NC.block 1 ((reg [m e.f.a e.a.f 0,m e.b.a e.f.a 1]).seq (NC.block 2 xM.loop))).seq (reg [m e.c.c e.a.f 0,b e.c.f .add (t e.c.c) (k 1) 1,m e.a.f e.c.f 2])))
noncomputable def C9:NFun:=⟨(reg [m e.b.b e.a 0,b e.b.c .add (t e.b.b) (k 1) 1,m e.a.f e.b.c 2]).seq (NC.block 0 yC.loop),53, []⟩
theorem xP:an Try.prog 31=some (.code C9):=by kernel_rfl
noncomputable def yU:NC:=(((reg [m e.f.f e.b.c 0,b e.a.a.a .geq (t e.f.f) (k 0) 1]).seq (NC.cond (t e.a.a.a) NC.skip (NC.exit 0))).seq ((NC.block 1 (reg [m e.a.a.f e 0,m e.a.b.a e.b.c 1,m e.a.b.b e.b.b 2,m e.a.b.c e.a.f 3,m e.a.b.f e.c 4,o e.a.c.a (.call (F 43) [t e.a.a.f,t e.a.b.a,t e.a.b.b,t e.a.b.c,t e.a.b.f]) 5])).seq (reg [m e.a.a.b e.b.c 0,b e.a.a.c .sub (t e.a.a.b) (k 1) 1,m e.b.c e.a.a.c 2])))
noncomputable def zD:NC:=(((reg [m e.a.c.f e.b.f 0,b e.a.f.a .geq (t e.a.c.f) (k 0) 1]).seq (NC.cond (t e.a.f.a) NC.skip (NC.exit 2))).seq ((NC.block 3 ((regD [m e.a.f.f e 0,m e.b.a.a e.a.f 1,m e.b.a.b e 2,m e.b.a.c e.a.f 3,m e.b.a.f e.b.f 4,O e.b.b.a (.bin .num .add (t e.b.a.c) (t e.b.a.f)) 24 5,m e.b.b.b e 6,m e.b.b.c e.a.f 7,m e.b.b.f e.b.f 8,O e.b.c.a (.bin .num .add (t e.b.b.c) (t e.b.b.f)) 384 9,O e.b.c.b (.indexSlc 2 (t e.b.b.b) (t e.b.c.a)) 960 10,O e.b.c.c (.loadN 2 (t e.b.c.b)) 1984 11,m e.b.c.f e 12,m e.b.f.a e.a.f 13,O e.b.f.b (.indexSlc 2 (t e.b.c.f) (t e.b.f.a)) 12288 14,O e.b.f.c (.loadN 2 (t e.b.f.b)) 28672 15,O e.b.f.f (.indexSlc 2 (t e.a.f.f) (t e.b.a.a)) 65475 16,⟨none,.store 2 (t e.b.f.f) (t e.b.c.c),none,131011,17⟩,O e.c.a.a (.indexSlc 2 (t e.b.a.b) (t e.b.b.a)) 262143 18,⟨none,.store 2 (t e.c.a.a) (t e.b.f.c),none,524287,19⟩]).seq (reg [m e.c.a.b e 0,m e.c.a.c e.b.a 1,m e.c.a.f e.b.f 2,m e.c.b.a e.a.f 3,m e.c.b.b e.c 4,o e.c.b.c (.call (F 43) [t e.c.a.b,t e.c.a.c,t e.c.a.f,t e.c.b.a,t e.c.b.b]) 5]))).seq (reg [m e.a.f.b e.b.f 0,b e.a.f.c .sub (t e.a.f.b) (k 1) 1,m e.b.f e.a.f.c 2])))
noncomputable def Dx:NFun:=⟨(reg [m e.c.a e.a 0,m e.a.f e.c.a 1]).seq ((reg [o e.b.a (.move (k 0)) 0]).seq ((reg [m e.c.b e.b 0,m e.c.c e.a 1,b e.c.f .sub (t e.c.b) (t e.c.c) 2,m e.b.b e.c.f 3]).seq (((reg [m e.f.a e.b.b 0,b e.f.b .sub (t e.f.a) (k 1) 1,b e.f.c .quo (t e.f.b) (k 2) 2,m e.b.c e.f.c 3]).seq (NC.block 0 yU.loop)).seq ((reg [m e.a.c.b e.b.b 0,b e.a.c.c .sub (t e.a.c.b) (k 1) 1,m e.b.f e.a.c.c 2]).seq (NC.block 2 zD.loop))))),60, []⟩
theorem zg:an Try.prog 32=some (.code Dx):=by kernel_rfl
noncomputable def xh:NC:=(((reg [m e.a.b.f e.b.c 0,m e.a.c.a e.a 1,m e.a.c.b e.a.f 2,b e.a.c.c .quo (t e.a.c.b) (k 4) 3,b e.a.c.f .mul (t e.a.c.c) (k 2) 4,b e.a.f.a .add (t e.a.c.a) (t e.a.c.f) 5,b e.a.f.b .add (t e.a.f.a) (k 1) 6,b e.a.f.c .leq (t e.a.b.f) (t e.a.f.b) 7]).seq (NC.cond (t e.a.f.c) NC.skip (NC.exit 0))).seq ((NC.block 1 ((reg [o e.b.a.b (.call (F 45) [t e.b.a]) 0,m e.b.a.c e.b.b 1,b e.b.a.f .sub (t e.b.a.c) (ku 1) 2,b e.b.b.a .and (t e.b.a.b) (t e.b.a.f) 3,o e.b.b.b (.toInt .i64 (t e.b.b.a)) 4,m e.b.f e.b.b.b 5]).seq (((reg [m e.b.b.c e.b.f 0,m e.b.b.f e.a.f 1,b e.b.c.a .geq (t e.b.b.c) (t e.b.b.f) 2]).seq (NC.cond (t e.b.c.a) (reg [m e.b.c.b e.b.f 0,m e.b.c.c e.a.f 1,b e.b.c.f .sub (t e.b.c.b) (t e.b.c.c) 2,m e.b.f e.b.c.f 3]) NC.skip)).seq (regD [m e.b.f.a e 0,m e.b.f.b e.b.c 1,m e.b.f.c e 2,m e.b.f.f e.a 3,m e.c.a.a e.b.f 4,O e.c.a.b (.bin .num .add (t e.b.f.f) (t e.c.a.a)) 24 5,m e.c.a.c e 6,m e.c.a.f e.a 7,m e.c.b.a e.b.f 8,O e.c.b.b (.bin .num .add (t e.c.a.f) (t e.c.b.a)) 384 9,O e.c.b.c (.indexSlc 2 (t e.c.a.c) (t e.c.b.b)) 960 10,O e.c.b.f (.loadN 2 (t e.c.b.c)) 1984 11,m e.c.c.a e 12,m e.c.c.b e.b.c 13,O e.c.c.c (.indexSlc 2 (t e.c.c.a) (t e.c.c.b)) 12288 14,O e.c.c.f (.loadN 2 (t e.c.c.c)) 28672 15,O e.c.f.a (.indexSlc 2 (t e.b.f.a) (t e.b.f.b)) 65475 16,⟨none,.store 2 (t e.c.f.a) (t e.c.b.f),none,131011,17⟩,O e.c.f.b (.indexSlc 2 (t e.b.f.c) (t e.c.a.b)) 262143 18,⟨none,.store 2 (t e.c.f.b) (t e.c.c.f),none,524287,19⟩])))).seq (reg [m e.a.f.f e.b.c 0,b e.b.a.a .add (t e.a.f.f) (k 1) 1,m e.b.c e.b.a.a 2])))
noncomputable def De:NFun:=⟨(reg [m e.c.a e.b 0,m e.c.b e.a 1,b e.c.c .sub (t e.c.a) (t e.c.b) 2,m e.a.f e.c.c 3]).seq ((reg [m e.c.f e.a.f 0,b e.f.a .geq (t e.c.f) (k 8) 1]).seq (NC.cond (t e.f.a) ((reg [m e.f.b e.a.f 0,o e.f.c (.toInt .u64 (t e.f.b)) 1,o e.b.a (.alloc [.int .u64 (.lit 0)] 79) 2,q (.store 1 (t e.b.a) (t e.f.c)) 3]).seq ((reg [m e.f.f e.a.f 0,o e.a.a.a (.call (F 44) [t e.f.f]) 1,m e.b.b e.a.a.a 2]).seq ((reg [m e.a.a.b e.a 0,m e.a.a.c e.a.f 1,b e.a.a.f .quo (t e.a.a.c) (k 4) 2,b e.a.b.a .mul (t e.a.a.f) (k 2) 3,b e.a.b.b .add (t e.a.a.b) (t e.a.b.a) 4,b e.a.b.c .sub (t e.a.b.b) (k 1) 5,m e.b.c e.a.b.c 6]).seq (NC.block 0 xh.loop)))) NC.skip)),67, []⟩
theorem yD:an Try.prog 33=some (.code De):=by kernel_rfl
noncomputable def Dc:NFun:=⟨(reg [o e.a.f (.move (k 0)) 0,o e.b.a (.move (k 0)) 1]).seq ((reg [m e.c.c e.b 0,m e.c.f e.a 1,b e.f.a .sub (t e.c.c) (t e.c.f) 2,m e.b.b e.f.a 3]).seq ((reg [o e.b.c (.alloc [.int .i64 (.lit 0)] 3) 0]).seq ((reg [m e.f.b e.a 0,m e.f.c e.b.b 1,b e.f.f .quo (t e.f.c) (k 4) 2,b e.a.a.a .mul (t e.f.f) (k 1) 3,b e.a.a.b .add (t e.f.b) (t e.a.a.a) 4,m e.b.f e.a.a.b 5]).seq ((reg [m e.a.a.c e.a 0,m e.a.a.f e.b.b 1,b e.a.b.a .quo (t e.a.a.f) (k 4) 2,b e.a.b.b .mul (t e.a.b.a) (k 2) 3,b e.a.b.c .add (t e.a.a.c) (t e.a.b.b) 4,m e.c.a e.a.b.c 5]).seq ((reg [m e.a.b.f e.a 0,m e.a.c.a e.b.b 1,b e.a.c.b .quo (t e.a.c.a) (k 4) 2,b e.a.c.c .mul (t e.a.c.b) (k 3) 3,b e.a.c.f .add (t e.a.b.f) (t e.a.c.c) 4,m e.c.b e.a.c.f 5]).seq (((reg [m e.a.f.a e.b.b 0,b e.a.f.b .geq (t e.a.f.a) (k 8) 1]).seq (NC.cond (t e.a.f.b) (((reg [m e.a.f.c e.b.b 0,b e.a.f.f .geq (t e.a.f.c) (k 50) 1]).seq (NC.cond (t e.a.f.f) ((reg [m e.b.a.a e 0,m e.b.a.b e.b.f 1,m e.b.a.c e.c 2,o e.b.a.f (.call (F 46) [t e.b.a.a,t e.b.a.b,t e.b.c,t e.b.a.c]) 3,m e.b.f e.b.a.f 4]).seq ((reg [m e.b.b.a e 0,m e.b.b.b e.c.a 1,m e.b.b.c e.c 2,o e.b.b.f (.call (F 46) [t e.b.b.a,t e.b.b.b,t e.b.c,t e.b.b.c]) 3,m e.c.a e.b.b.f 4]).seq (reg [m e.b.c.a e 0,m e.b.c.b e.c.b 1,m e.b.c.c e.c 2,o e.b.c.f (.call (F 46) [t e.b.c.a,t e.b.c.b,t e.b.c,t e.b.c.c]) 3,m e.c.b e.b.c.f 4]))) NC.skip)).seq (reg [m e.b.f.a e 0,m e.b.f.b e.b.f 1,m e.b.f.c e.c.a 2,m e.b.f.f e.c.b 3,m e.c.a.a e.c 4,o e.c.a.b (.call (F 47) [t e.b.f.a,t e.b.f.b,t e.b.f.c,t e.b.f.f,t e.b.c,t e.c.a.a]) 5,m e.c.a e.c.a.b 6])) NC.skip)).seq ((reg [l e.c.a.c e.b.c 0]).seq (NC.block 0 ((reg [b e.c.b.b .eql (t e.c.a.c) (k 0) 0,m e.c.b.a e.c.b.b 1]).seq (NC.cond (t e.c.b.a) ((reg [m e.c.b.c e.c.a 0,m e.a.f e.c.b.c 1,o e.b.a (.move (k 1)) 2]).seq NC.ret) ((reg [b e.c.c.a .eql (t e.c.a.c) (k 12) 0,m e.c.b.f e.c.c.a 1]).seq (NC.cond (t e.c.b.f) ((reg [m e.c.c.b e.c.a 0,m e.a.f e.c.c.b 1,o e.b.a (.move (k 2)) 2]).seq NC.ret) ((reg [m e.c.a.f e.c.a 0,m e.a.f e.c.a.f 1,o e.b.a (.move (k 0)) 2]).seq NC.ret))))))))))))),63, [.tmp e.a.f,.tmp e.b.a]⟩
theorem zQ:an Try.prog 34=some (.code Dc):=by kernel_rfl
noncomputable def zZ:NC:=(((reg [m e.c.a e.a.f 0,m e.c.b e.b.a 1,b e.c.c .lss (t e.c.a) (t e.c.b) 2]).seq (NC.cond (t e.c.c) NC.skip (NC.exit 0))).seq (NC.block 1 ((regD [m e.c.f e 0,m e.f.a e.a.f 1,m e.f.b e 2,m e.f.c e.b.a 3,m e.f.f e 4,m e.a.a.a e.b.a 5,O e.a.a.b (.indexSlc 2 (t e.f.f) (t e.a.a.a)) 48 6,O e.a.a.c (.loadN 2 (t e.a.a.b)) 112 7,m e.a.a.f e 8,m e.a.b.a e.a.f 9,O e.a.b.b (.indexSlc 2 (t e.a.a.f) (t e.a.b.a)) 768 10,O e.a.b.c (.loadN 2 (t e.a.b.b)) 1792 11,O e.a.b.f (.indexSlc 2 (t e.c.f) (t e.f.a)) 4083 12,⟨none,.store 2 (t e.a.b.f) (t e.a.a.c),none,8179,13⟩,O e.a.c.a (.indexSlc 2 (t e.f.b) (t e.f.c)) 16383 14,⟨none,.store 2 (t e.a.c.a) (t e.a.b.c),none,32767,15⟩]).seq ((reg [m e.a.c.b e.a.f 0,b e.a.c.c .add (t e.a.c.b) (k 1) 1,m e.a.f e.a.c.c 2]).seq (reg [m e.a.c.f e.b.a 0,b e.a.f.a .sub (t e.a.c.f) (k 1) 1,m e.b.a e.a.f.a 2])))))
noncomputable def Di:NFun:=⟨(reg [m e.b.b e.a 0,m e.a.f e.b.b 1]).seq ((reg [m e.b.c e.b 0,b e.b.f .sub (t e.b.c) (k 1) 1,m e.b.a e.b.f 2]).seq (NC.block 0 zZ.loop)),34, []⟩
theorem zi:an Try.prog 35=some (.code Di):=by kernel_rfl
noncomputable def yv:NC:=(((regD [m e.f.c e.b.a 0,m e.f.f e.b 1,O e.a.a.a (.bin .num .lss (t e.f.c) (t e.f.f)) 3 2,O e.a.a.b (.move (t e.a.a.a)) 7 3,⟨some e.a.a.c,.move (t e.c),some (e.a.a.b,true),15,4⟩,⟨some e.a.a.f,.move (t e),some (e.a.a.b,true),15,5⟩,⟨some e.a.b.a,.move (t e.b.a),some (e.a.a.b,true),15,6⟩,⟨some e.a.b.b,.indexSlc 2 (t e.a.a.f) (t e.a.b.a),some (e.a.a.b,true),111,7⟩,⟨some e.a.b.c,.loadN 2 (t e.a.b.b),some (e.a.a.b,true),239,8⟩,⟨some e.a.b.f,.move (t e),some (e.a.a.b,true),15,9⟩,⟨some e.a.c.a,.move (t e.b.a),some (e.a.a.b,true),15,10⟩,⟨some e.a.c.b,.bin .num .sub (t e.a.c.a) (k 1),some (e.a.a.b,true),1039,11⟩,⟨some e.a.c.c,.indexSlc 2 (t e.a.b.f) (t e.a.c.b),some (e.a.a.b,true),3599,12⟩,⟨some e.a.c.f,.loadN 2 (t e.a.c.c),some (e.a.a.b,true),7695,13⟩,⟨some e.a.f.a,.call (t e.a.a.c) [t e.a.b.c,t e.a.c.f],some (e.a.a.b,true),16383,14⟩,⟨some e.a.f.b,.bin .num .lss (t e.a.f.a) (k 0),some (e.a.a.b,true),32767,15⟩,⟨some e.a.f.c,.un .not (t e.a.f.b),some (e.a.a.b,true),65535,16⟩,O e.a.f.f (.pick (t e.a.a.b) (t e.a.f.c) kf) 131071 17]).seq (NC.cond (t e.a.f.f) NC.skip (NC.exit 2))).seq (NC.block 3 (reg [m e.b.a.a e.b.a 0,b e.b.a.b .add (t e.b.a.a) (k 1) 1,m e.b.a e.b.a.b 2])))
noncomputable def xY:NC:=(((reg [m e.c.f.f e.b.c 0,b e.f.a.a .geq (t e.c.f.f) (k 1) 1]).seq (NC.cond (t e.f.a.a) NC.skip (NC.exit 4))).seq ((NC.block 5 (((regD [m e.f.a.f e.c 0,m e.f.b.a e 1,m e.f.b.b e.b.c 2,O e.f.b.c (.indexSlc 2 (t e.f.b.a) (t e.f.b.b)) 6 3,O e.f.b.f (.loadN 2 (t e.f.b.c)) 14 4,m e.f.c.a e 5,m e.f.c.b e.b.c 6,O e.f.c.c (.bin .num .sub (t e.f.c.b) (k 1)) 64 7,O e.f.c.f (.indexSlc 2 (t e.f.c.a) (t e.f.c.c)) 224 8,O e.f.f.a (.loadN 2 (t e.f.c.f)) 480 9,O e.f.f.b (.call (t e.f.a.f) [t e.f.b.f,t e.f.f.a]) 1023 10,O e.f.f.c (.bin .num .lss (t e.f.f.b) (k 0)) 2047 11,O e.f.f.f (.un .not (t e.f.f.c)) 4095 12]).seq (NC.cond (t e.f.f.f) (NC.exit 4) NC.skip)).seq (regD [m e.a.a.a.a e 0,m e.a.a.a.b e.b.c 1,m e.a.a.a.c e 2,m e.a.a.a.f e.b.c 3,O e.a.a.b.a (.bin .num .sub (t e.a.a.a.f) (k 1)) 8 4,m e.a.a.b.b e 5,m e.a.a.b.c e.b.c 6,O e.a.a.b.f (.bin .num .sub (t e.a.a.b.c) (k 1)) 64 7,O e.a.a.c.a (.indexSlc 2 (t e.a.a.b.b) (t e.a.a.b.f)) 224 8,O e.a.a.c.b (.loadN 2 (t e.a.a.c.a)) 480 9,m e.a.a.c.c e 10,m e.a.a.c.f e.b.c 11,O e.a.a.f.a (.indexSlc 2 (t e.a.a.c.c) (t e.a.a.c.f)) 3072 12,O e.a.a.f.b (.loadN 2 (t e.a.a.f.a)) 7168 13,O e.a.a.f.c (.indexSlc 2 (t e.a.a.a.a) (t e.a.a.a.b)) 16355 14,⟨none,.store 2 (t e.a.a.f.c) (t e.a.a.c.b),none,32739,15⟩,O e.a.a.f.f (.indexSlc 2 (t e.a.a.a.c) (t e.a.a.b.a)) 65535 16,⟨none,.store 2 (t e.a.a.f.f) (t e.a.a.f.b),none,131071,17⟩]))).seq (reg [m e.f.a.b e.b.c 0,b e.f.a.c .sub (t e.f.a.b) (k 1) 1,m e.b.c e.f.a.c 2])))
noncomputable def xK:NC:=(((reg [m e.a.b.b.c e.b.f 0,m e.a.b.b.f e.b 1,b e.a.b.c.a .lss (t e.a.b.b.c) (t e.a.b.b.f) 2]).seq (NC.cond (t e.a.b.c.a) NC.skip (NC.exit 6))).seq ((NC.block 7 (((regD [m e.a.b.c.f e.c 0,m e.a.b.f.a e 1,m e.a.b.f.b e.b.f 2,O e.a.b.f.c (.indexSlc 2 (t e.a.b.f.a) (t e.a.b.f.b)) 6 3,O e.a.b.f.f (.loadN 2 (t e.a.b.f.c)) 14 4,m e.a.c.a.a e 5,m e.a.c.a.b e.b.f 6,O e.a.c.a.c (.bin .num .sub (t e.a.c.a.b) (k 1)) 64 7,O e.a.c.a.f (.indexSlc 2 (t e.a.c.a.a) (t e.a.c.a.c)) 224 8,O e.a.c.b.a (.loadN 2 (t e.a.c.a.f)) 480 9,O e.a.c.b.b (.call (t e.a.b.c.f) [t e.a.b.f.f,t e.a.c.b.a]) 1023 10,O e.a.c.b.c (.bin .num .lss (t e.a.c.b.b) (k 0)) 2047 11,O e.a.c.b.f (.un .not (t e.a.c.b.c)) 4095 12]).seq (NC.cond (t e.a.c.b.f) (NC.exit 6) NC.skip)).seq (regD [m e.a.c.c.a e 0,m e.a.c.c.b e.b.f 1,m e.a.c.c.c e 2,m e.a.c.c.f e.b.f 3,O e.a.c.f.a (.bin .num .sub (t e.a.c.c.f) (k 1)) 8 4,m e.a.c.f.b e 5,m e.a.c.f.c e.b.f 6,O e.a.c.f.f (.bin .num .sub (t e.a.c.f.c) (k 1)) 64 7,O e.a.f.a.a (.indexSlc 2 (t e.a.c.f.b) (t e.a.c.f.f)) 224 8,O e.a.f.a.b (.loadN 2 (t e.a.f.a.a)) 480 9,m e.a.f.a.c e 10,m e.a.f.a.f e.b.f 11,O e.a.f.b.a (.indexSlc 2 (t e.a.f.a.c) (t e.a.f.a.f)) 3072 12,O e.a.f.b.b (.loadN 2 (t e.a.f.b.a)) 7168 13,O e.a.f.b.c (.indexSlc 2 (t e.a.c.c.a) (t e.a.c.c.b)) 16355 14,⟨none,.store 2 (t e.a.f.b.c) (t e.a.f.a.b),none,32739,15⟩,O e.a.f.b.f (.indexSlc 2 (t e.a.c.c.c) (t e.a.c.f.a)) 65535 16,⟨none,.store 2 (t e.a.f.b.f) (t e.a.f.b.b),none,131071,17⟩]))).seq (reg [m e.a.b.c.b e.b.f 0,b e.a.b.c.c .add (t e.a.b.c.b) (k 1) 1,m e.b.f e.a.b.c.c 2])))
noncomputable def xp:NC:=(((reg [m e.c.c e.b.b 0,b e.c.f .lss (t e.c.c) (k 5) 1]).seq (NC.cond (t e.c.f) NC.skip (NC.exit 0))).seq ((NC.block 1 ((NC.block 2 yv.loop).seq (((reg [m e.b.a.c e.b.a 0,m e.b.a.f e.b 1,b e.b.b.a .eql (t e.b.a.c) (t e.b.a.f) 2]).seq (NC.cond (t e.b.b.a) ((reg [o e.a.f (.move kt) 0]).seq NC.ret) NC.skip)).seq (((reg [m e.b.b.b e.b 0,m e.b.b.c e.a 1,b e.b.b.f .sub (t e.b.b.b) (t e.b.b.c) 2,b e.b.c.a .lss (t e.b.b.f) (k 50) 3]).seq (NC.cond (t e.b.c.a) ((reg [o e.a.f (.move kf) 0]).seq NC.ret) NC.skip)).seq ((regD [m e.b.c.b e 0,m e.b.c.c e.b.a 1,m e.b.c.f e 2,m e.b.f.a e.b.a 3,O e.b.f.b (.bin .num .sub (t e.b.f.a) (k 1)) 8 4,m e.b.f.c e 5,m e.b.f.f e.b.a 6,O e.c.a.a (.bin .num .sub (t e.b.f.f) (k 1)) 64 7,O e.c.a.b (.indexSlc 2 (t e.b.f.c) (t e.c.a.a)) 224 8,O e.c.a.c (.loadN 2 (t e.c.a.b)) 480 9,m e.c.a.f e 10,m e.c.b.a e.b.a 11,O e.c.b.b (.indexSlc 2 (t e.c.a.f) (t e.c.b.a)) 3072 12,O e.c.b.c (.loadN 2 (t e.c.b.b)) 7168 13,O e.c.b.f (.indexSlc 2 (t e.b.c.b) (t e.b.c.c)) 16355 14,⟨none,.store 2 (t e.c.b.f) (t e.c.a.c),none,32739,15⟩,O e.c.c.a (.indexSlc 2 (t e.b.c.f) (t e.b.f.b)) 65535 16,⟨none,.store 2 (t e.c.c.a) (t e.c.b.c),none,131071,17⟩]).seq (((reg [m e.c.c.b e.b.a 0,m e.c.c.c e.a 1,b e.c.c.f .sub (t e.c.c.b) (t e.c.c.c) 2,b e.c.f.a .geq (t e.c.c.f) (k 2) 3]).seq (NC.cond (t e.c.f.a) ((reg [m e.c.f.b e.b.a 0,b e.c.f.c .sub (t e.c.f.b) (k 1) 1,m e.b.c e.c.f.c 2]).seq (NC.block 4 xY.loop)) NC.skip)).seq ((reg [m e.a.b.a.a e.b 0,m e.a.b.a.b e.b.a 1,b e.a.b.a.c .sub (t e.a.b.a.a) (t e.a.b.a.b) 2,b e.a.b.a.f .geq (t e.a.b.a.c) (k 2) 3]).seq (NC.cond (t e.a.b.a.f) ((reg [m e.a.b.b.a e.b.a 0,b e.a.b.b.b .add (t e.a.b.b.a) (k 1) 1,m e.b.f e.a.b.b.b 2]).seq (NC.block 6 xK.loop)) NC.skip)))))))).seq (reg [m e.f.a e.b.b 0,b e.f.b .add (t e.f.a) (k 1) 1,m e.b.b e.f.b 2])))
noncomputable def Dp:NFun:=⟨(reg [o e.a.f (.move kf) 0]).seq ((reg [m e.c.a e.a 0,b e.c.b .add (t e.c.a) (k 1) 1,m e.b.a e.c.b 2]).seq (((reg [o e.b.b (.move (k 0)) 0]).seq (NC.block 0 xp.loop)).seq ((reg [o e.a.f (.move kf) 0]).seq NC.ret))),141, [.tmp e.a.f]⟩
theorem yM:an Try.prog 36=some (.code Dp):=by kernel_rfl
noncomputable def xZ:NC:=(((regD [m e.b.f.b e.b.c 0,m e.b.f.c e.b.f 1,O e.b.f.f (.bin .num .leq (t e.b.f.b) (t e.b.f.c)) 3 2,O e.c.a.a (.move (t e.b.f.f)) 7 3,⟨some e.c.a.b,.move (t e.f),some (e.c.a.a,true),15,4⟩,⟨some e.c.a.c,.move (t e),some (e.c.a.a,true),15,5⟩,⟨some e.c.a.f,.move (t e.a),some (e.c.a.a,true),15,6⟩,⟨some e.c.b.a,.indexSlc 2 (t e.c.a.c) (t e.c.a.f),some (e.c.a.a,true),111,7⟩,⟨some e.c.b.b,.loadN 2 (t e.c.b.a),some (e.c.a.a,true),239,8⟩,⟨some e.c.b.c,.move (t e),some (e.c.a.a,true),15,9⟩,⟨some e.c.b.f,.move (t e.b.f),some (e.c.a.a,true),15,10⟩,⟨some e.c.c.a,.indexSlc 2 (t e.c.b.c) (t e.c.b.f),some (e.c.a.a,true),1551,11⟩,⟨some e.c.c.b,.loadN 2 (t e.c.c.a),some (e.c.a.a,true),3599,12⟩,⟨some e.c.c.c,.call (t e.c.a.b) [t e.c.b.b,t e.c.c.b],some (e.c.a.a,true),8191,13⟩,⟨some e.c.c.f,.bin .num .lss (t e.c.c.c) (k 0),some (e.c.a.a,true),16383,14⟩,O e.c.f.a (.pick (t e.c.a.a) (t e.c.c.f) kf) 32767 15]).seq (NC.cond (t e.c.f.a) NC.skip (NC.exit 4))).seq (NC.block 5 (reg [m e.c.f.b e.b.f 0,b e.c.f.c .sub (t e.c.f.b) (k 1) 1,m e.b.f e.c.f.c 2])))
noncomputable def xt:NC:=(((regD [m e.a.c.c e.b.c 0,m e.a.c.f e.b.f 1,O e.a.f.a (.bin .num .leq (t e.a.c.c) (t e.a.c.f)) 3 2,O e.a.f.b (.move (t e.a.f.a)) 7 3,⟨some e.a.f.c,.move (t e.f),some (e.a.f.b,true),15,4⟩,⟨some e.a.f.f,.move (t e),some (e.a.f.b,true),15,5⟩,⟨some e.b.a.a,.move (t e.a),some (e.a.f.b,true),15,6⟩,⟨some e.b.a.b,.indexSlc 2 (t e.a.f.f) (t e.b.a.a),some (e.a.f.b,true),111,7⟩,⟨some e.b.a.c,.loadN 2 (t e.b.a.b),some (e.a.f.b,true),239,8⟩,⟨some e.b.a.f,.move (t e),some (e.a.f.b,true),15,9⟩,⟨some e.b.b.a,.move (t e.b.c),some (e.a.f.b,true),15,10⟩,⟨some e.b.b.b,.indexSlc 2 (t e.b.a.f) (t e.b.b.a),some (e.a.f.b,true),1551,11⟩,⟨some e.b.b.c,.loadN 2 (t e.b.b.b),some (e.a.f.b,true),3599,12⟩,⟨some e.b.b.f,.call (t e.a.f.c) [t e.b.a.c,t e.b.b.c],some (e.a.f.b,true),8191,13⟩,⟨some e.b.c.a,.bin .num .lss (t e.b.b.f) (k 0),some (e.a.f.b,true),16383,14⟩,⟨some e.b.c.b,.un .not (t e.b.c.a),some (e.a.f.b,true),32767,15⟩,O e.b.c.c (.pick (t e.a.f.b) (t e.b.c.b) kf) 65535 16]).seq (NC.cond (t e.b.c.c) NC.skip (NC.exit 2))).seq (NC.block 3 (reg [m e.b.c.f e.b.c 0,b e.b.f.a .add (t e.b.c.f) (k 1) 1,m e.b.c e.b.f.a 2])))
noncomputable def Aa:NC:=(NC.block 1 ((NC.block 2 xt.loop).seq ((NC.block 4 xZ.loop).seq (((reg [m e.c.f.f e.b.c 0,m e.f.a.a e.b.f 1,b e.f.a.b .gtr (t e.c.f.f) (t e.f.a.a) 2]).seq (NC.cond (t e.f.a.b) (NC.exit 0) NC.skip)).seq ((regD [m e.f.a.c e 0,m e.f.a.f e.b.c 1,m e.f.b.a e 2,m e.f.b.b e.b.f 3,m e.f.b.c e 4,m e.f.b.f e.b.f 5,O e.f.c.a (.indexSlc 2 (t e.f.b.c) (t e.f.b.f)) 48 6,O e.f.c.b (.loadN 2 (t e.f.c.a)) 112 7,m e.f.c.c e 8,m e.f.c.f e.b.c 9,O e.f.f.a (.indexSlc 2 (t e.f.c.c) (t e.f.c.f)) 768 10,O e.f.f.b (.loadN 2 (t e.f.f.a)) 1792 11,O e.f.f.c (.indexSlc 2 (t e.f.a.c) (t e.f.a.f)) 4083 12,⟨none,.store 2 (t e.f.f.c) (t e.f.c.b),none,8179,13⟩,O e.f.f.f (.indexSlc 2 (t e.f.b.a) (t e.f.b.b)) 16383 14,⟨none,.store 2 (t e.f.f.f) (t e.f.f.b),none,32767,15⟩]).seq ((reg [m e.a.a.a.a e.b.c 0,b e.a.a.a.b .add (t e.a.a.a.a) (k 1) 1,m e.b.c e.a.a.a.b 2]).seq (reg [m e.a.a.a.c e.b.f 0,b e.a.a.a.f .sub (t e.a.a.a.c) (k 1) 1,m e.b.f e.a.a.a.f 2])))))))
noncomputable def CK:NFun:=⟨(reg [o e.b.b (.move (k 0)) 0]).seq ((regD [m e.c.a e 0,m e.c.b e.a 1,m e.c.c e 2,m e.c.f e.c 3,m e.f.a e 4,m e.f.b e.c 5,O e.f.c (.indexSlc 2 (t e.f.a) (t e.f.b)) 48 6,O e.f.f (.loadN 2 (t e.f.c)) 112 7,m e.a.a.a e 8,m e.a.a.b e.a 9,O e.a.a.c (.indexSlc 2 (t e.a.a.a) (t e.a.a.b)) 768 10,O e.a.a.f (.loadN 2 (t e.a.a.c)) 1792 11,O e.a.b.a (.indexSlc 2 (t e.c.a) (t e.c.b)) 4083 12,⟨none,.store 2 (t e.a.b.a) (t e.f.f),none,8179,13⟩,O e.a.b.b (.indexSlc 2 (t e.c.c) (t e.c.f)) 16383 14,⟨none,.store 2 (t e.a.b.b) (t e.a.a.f),none,32767,15⟩]).seq ((reg [m e.a.b.c e.a 0,b e.a.b.f .add (t e.a.b.c) (k 1) 1,m e.a.c.a e.b 2,b e.a.c.b .sub (t e.a.c.a) (k 1) 3,m e.b.c e.a.b.f 4,m e.b.f e.a.c.b 5]).seq ((NC.block 0 Aa.loop).seq ((reg [m e.a.a.b.a e.b.c 0,m e.b.b e.a.a.b.a 1]).seq NC.ret)))),90, [.tmp e.b.b]⟩
theorem yf:an Try.prog 37=some (.code CK):=by kernel_rfl
noncomputable def z8:NC:=(((regD [m e.a.c.f e.b.f 0,m e.a.f.a e.c.a 1,O e.a.f.b (.bin .num .leq (t e.a.c.f) (t e.a.f.a)) 3 2,O e.a.f.c (.move (t e.a.f.b)) 7 3,⟨some e.a.f.f,.move (t e.f),some (e.a.f.c,true),15,4⟩,⟨some e.b.a.a,.move (t e),some (e.a.f.c,true),15,5⟩,⟨some e.b.a.b,.move (t e.b.f),some (e.a.f.c,true),15,6⟩,⟨some e.b.a.c,.indexSlc 2 (t e.b.a.a) (t e.b.a.b),some (e.a.f.c,true),111,7⟩,⟨some e.b.a.f,.loadN 2 (t e.b.a.c),some (e.a.f.c,true),239,8⟩,⟨some e.b.b.a,.move (t e),some (e.a.f.c,true),15,9⟩,⟨some e.b.b.b,.move (t e.a),some (e.a.f.c,true),15,10⟩,⟨some e.b.b.c,.indexSlc 2 (t e.b.b.a) (t e.b.b.b),some (e.a.f.c,true),1551,11⟩,⟨some e.b.b.f,.loadN 2 (t e.b.b.c),some (e.a.f.c,true),3599,12⟩,⟨some e.b.c.a,.call (t e.a.f.f) [t e.b.a.f,t e.b.b.f],some (e.a.f.c,true),8191,13⟩,⟨some e.b.c.b,.bin .num .lss (t e.b.c.a) (k 0),some (e.a.f.c,true),16383,14⟩,O e.b.c.c (.pick (t e.a.f.c) (t e.b.c.b) kf) 32767 15]).seq (NC.cond (t e.b.c.c) NC.skip (NC.exit 0))).seq (NC.block 1 (reg [m e.b.c.f e.b.f 0,b e.b.f.a .add (t e.b.c.f) (k 1) 1,m e.b.f e.b.f.a 2])))
noncomputable def xu:NC:=(((regD [m e.b.f.b e.b.f 0,m e.b.f.c e.c.a 1,O e.b.f.f (.bin .num .leq (t e.b.f.b) (t e.b.f.c)) 3 2,O e.c.a.a (.move (t e.b.f.f)) 7 3,⟨some e.c.a.b,.move (t e.f),some (e.c.a.a,true),15,4⟩,⟨some e.c.a.c,.move (t e),some (e.c.a.a,true),15,5⟩,⟨some e.c.a.f,.move (t e.c.a),some (e.c.a.a,true),15,6⟩,⟨some e.c.b.a,.indexSlc 2 (t e.c.a.c) (t e.c.a.f),some (e.c.a.a,true),111,7⟩,⟨some e.c.b.b,.loadN 2 (t e.c.b.a),some (e.c.a.a,true),239,8⟩,⟨some e.c.b.c,.move (t e),some (e.c.a.a,true),15,9⟩,⟨some e.c.b.f,.move (t e.a),some (e.c.a.a,true),15,10⟩,⟨some e.c.c.a,.indexSlc 2 (t e.c.b.c) (t e.c.b.f),some (e.c.a.a,true),1551,11⟩,⟨some e.c.c.b,.loadN 2 (t e.c.c.a),some (e.c.a.a,true),3599,12⟩,⟨some e.c.c.c,.call (t e.c.a.b) [t e.c.b.b,t e.c.c.b],some (e.c.a.a,true),8191,13⟩,⟨some e.c.c.f,.bin .num .lss (t e.c.c.c) (k 0),some (e.c.a.a,true),16383,14⟩,⟨some e.c.f.a,.un .not (t e.c.c.f),some (e.c.a.a,true),32767,15⟩,O e.c.f.b (.pick (t e.c.a.a) (t e.c.f.a) kf) 65535 16]).seq (NC.cond (t e.c.f.b) NC.skip (NC.exit 2))).seq (NC.block 3 (reg [m e.c.f.c e.c.a 0,b e.c.f.f .sub (t e.c.f.c) (k 1) 1,m e.c.a e.c.f.f 2])))
noncomputable def yT:NC:=(((regD [m e.a.b.b.a e.b.f 0,m e.a.b.b.b e.c.a 1,O e.a.b.b.c (.bin .num .leq (t e.a.b.b.a) (t e.a.b.b.b)) 3 2,O e.a.b.b.f (.move (t e.a.b.b.c)) 7 3,⟨some e.a.b.c.a,.move (t e.f),some (e.a.b.b.f,true),15,4⟩,⟨some e.a.b.c.b,.move (t e),some (e.a.b.b.f,true),15,5⟩,⟨some e.a.b.c.c,.move (t e.b.f),some (e.a.b.b.f,true),15,6⟩,⟨some e.a.b.c.f,.indexSlc 2 (t e.a.b.c.b) (t e.a.b.c.c),some (e.a.b.b.f,true),111,7⟩,⟨some e.a.b.f.a,.loadN 2 (t e.a.b.c.f),some (e.a.b.b.f,true),239,8⟩,⟨some e.a.b.f.b,.move (t e),some (e.a.b.b.f,true),15,9⟩,⟨some e.a.b.f.c,.move (t e.a),some (e.a.b.b.f,true),15,10⟩,⟨some e.a.b.f.f,.indexSlc 2 (t e.a.b.f.b) (t e.a.b.f.c),some (e.a.b.b.f,true),1551,11⟩,⟨some e.a.c.a.a,.loadN 2 (t e.a.b.f.f),some (e.a.b.b.f,true),3599,12⟩,⟨some e.a.c.a.b,.call (t e.a.b.c.a) [t e.a.b.f.a,t e.a.c.a.a],some (e.a.b.b.f,true),8191,13⟩,⟨some e.a.c.a.c,.bin .num .lss (t e.a.c.a.b) (k 0),some (e.a.b.b.f,true),16383,14⟩,O e.a.c.a.f (.pick (t e.a.b.b.f) (t e.a.c.a.c) kf) 32767 15]).seq (NC.cond (t e.a.c.a.f) NC.skip (NC.exit 6))).seq (NC.block 7 (reg [m e.a.c.b.a e.b.f 0,b e.a.c.b.b .add (t e.a.c.b.a) (k 1) 1,m e.b.f e.a.c.b.b 2])))
noncomputable def yR:NC:=(((regD [m e.a.c.b.c e.b.f 0,m e.a.c.b.f e.c.a 1,O e.a.c.c.a (.bin .num .leq (t e.a.c.b.c) (t e.a.c.b.f)) 3 2,O e.a.c.c.b (.move (t e.a.c.c.a)) 7 3,⟨some e.a.c.c.c,.move (t e.f),some (e.a.c.c.b,true),15,4⟩,⟨some e.a.c.c.f,.move (t e),some (e.a.c.c.b,true),15,5⟩,⟨some e.a.c.f.a,.move (t e.c.a),some (e.a.c.c.b,true),15,6⟩,⟨some e.a.c.f.b,.indexSlc 2 (t e.a.c.c.f) (t e.a.c.f.a),some (e.a.c.c.b,true),111,7⟩,⟨some e.a.c.f.c,.loadN 2 (t e.a.c.f.b),some (e.a.c.c.b,true),239,8⟩,⟨some e.a.c.f.f,.move (t e),some (e.a.c.c.b,true),15,9⟩,⟨some e.a.f.a.a,.move (t e.a),some (e.a.c.c.b,true),15,10⟩,⟨some e.a.f.a.b,.indexSlc 2 (t e.a.c.f.f) (t e.a.f.a.a),some (e.a.c.c.b,true),1551,11⟩,⟨some e.a.f.a.c,.loadN 2 (t e.a.f.a.b),some (e.a.c.c.b,true),3599,12⟩,⟨some e.a.f.a.f,.call (t e.a.c.c.c) [t e.a.c.f.c,t e.a.f.a.c],some (e.a.c.c.b,true),8191,13⟩,⟨some e.a.f.b.a,.bin .num .lss (t e.a.f.a.f) (k 0),some (e.a.c.c.b,true),16383,14⟩,⟨some e.a.f.b.b,.un .not (t e.a.f.b.a),some (e.a.c.c.b,true),32767,15⟩,O e.a.f.b.c (.pick (t e.a.c.c.b) (t e.a.f.b.b) kf) 65535 16]).seq (NC.cond (t e.a.f.b.c) NC.skip (NC.exit 8))).seq (NC.block 9 (reg [m e.a.f.b.f e.c.a 0,b e.a.f.c.a .sub (t e.a.f.b.f) (k 1) 1,m e.c.a e.a.f.c.a 2])))
noncomputable def xS:NC:=(NC.block 5 ((NC.block 6 yT.loop).seq ((NC.block 8 yR.loop).seq (((reg [m e.a.f.c.b e.b.f 0,m e.a.f.c.c e.c.a 1,b e.a.f.c.f .gtr (t e.a.f.c.b) (t e.a.f.c.c) 2]).seq (NC.cond (t e.a.f.c.f) (NC.exit 4) NC.skip)).seq ((regD [m e.a.f.f.a e 0,m e.a.f.f.b e.b.f 1,m e.a.f.f.c e 2,m e.a.f.f.f e.c.a 3,m e.b.a.a.a e 4,m e.b.a.a.b e.c.a 5,O e.b.a.a.c (.indexSlc 2 (t e.b.a.a.a) (t e.b.a.a.b)) 48 6,O e.b.a.a.f (.loadN 2 (t e.b.a.a.c)) 112 7,m e.b.a.b.a e 8,m e.b.a.b.b e.b.f 9,O e.b.a.b.c (.indexSlc 2 (t e.b.a.b.a) (t e.b.a.b.b)) 768 10,O e.b.a.b.f (.loadN 2 (t e.b.a.b.c)) 1792 11,O e.b.a.c.a (.indexSlc 2 (t e.a.f.f.a) (t e.a.f.f.b)) 4083 12,⟨none,.store 2 (t e.b.a.c.a) (t e.b.a.a.f),none,8179,13⟩,O e.b.a.c.b (.indexSlc 2 (t e.a.f.f.c) (t e.a.f.f.f)) 16383 14,⟨none,.store 2 (t e.b.a.c.b) (t e.b.a.b.f),none,32767,15⟩]).seq ((reg [m e.b.a.c.c e.b.f 0,b e.b.a.c.f .add (t e.b.a.c.c) (k 1) 1,m e.b.f e.b.a.c.f 2]).seq (reg [m e.b.a.f.a e.c.a 0,b e.b.a.f.b .sub (t e.b.a.f.a) (k 1) 1,m e.c.a e.b.a.f.b 2])))))))
noncomputable def Ex:NFun:=⟨(reg [o e.b.b (.move (k 0)) 0,o e.b.c (.move kf) 1]).seq ((regD [m e.c.b e 0,m e.c.c e.a 1,m e.c.f e 2,m e.f.a e.c 3,m e.f.b e 4,m e.f.c e.c 5,O e.f.f (.indexSlc 2 (t e.f.b) (t e.f.c)) 48 6,O e.a.a.a (.loadN 2 (t e.f.f)) 112 7,m e.a.a.b e 8,m e.a.a.c e.a 9,O e.a.a.f (.indexSlc 2 (t e.a.a.b) (t e.a.a.c)) 768 10,O e.a.b.a (.loadN 2 (t e.a.a.f)) 1792 11,O e.a.b.b (.indexSlc 2 (t e.c.b) (t e.c.c)) 4083 12,⟨none,.store 2 (t e.a.b.b) (t e.a.a.a),none,8179,13⟩,O e.a.b.c (.indexSlc 2 (t e.c.f) (t e.f.a)) 16383 14,⟨none,.store 2 (t e.a.b.c) (t e.a.b.a),none,32767,15⟩]).seq ((reg [m e.a.b.f e.a 0,b e.a.c.a .add (t e.a.b.f) (k 1) 1,m e.a.c.b e.b 2,b e.a.c.c .sub (t e.a.c.b) (k 1) 3,m e.b.f e.a.c.a 4,m e.c.a e.a.c.c 5]).seq ((NC.block 0 z8.loop).seq ((NC.block 2 xu.loop).seq (((reg [m e.f.a.a e.b.f 0,m e.f.a.b e.c.a 1,b e.f.a.c .gtr (t e.f.a.a) (t e.f.a.b) 2]).seq (NC.cond (t e.f.a.c) ((regD [m e.f.a.f e 0,m e.f.b.a e.c.a 1,m e.f.b.b e 2,m e.f.b.c e.a 3,m e.f.b.f e 4,m e.f.c.a e.a 5,O e.f.c.b (.indexSlc 2 (t e.f.b.f) (t e.f.c.a)) 48 6,O e.f.c.c (.loadN 2 (t e.f.c.b)) 112 7,m e.f.c.f e 8,m e.f.f.a e.c.a 9,O e.f.f.b (.indexSlc 2 (t e.f.c.f) (t e.f.f.a)) 768 10,O e.f.f.c (.loadN 2 (t e.f.f.b)) 1792 11,O e.f.f.f (.indexSlc 2 (t e.f.a.f) (t e.f.b.a)) 4083 12,⟨none,.store 2 (t e.f.f.f) (t e.f.c.c),none,8179,13⟩,O e.a.a.a.a (.indexSlc 2 (t e.f.b.b) (t e.f.b.c)) 16383 14,⟨none,.store 2 (t e.a.a.a.a) (t e.f.f.c),none,32767,15⟩]).seq ((reg [m e.a.a.a.b e.c.a 0,m e.b.b e.a.a.a.b 1,o e.b.c (.move kt) 2]).seq NC.ret)) NC.skip)).seq ((regD [m e.a.a.a.c e 0,m e.a.a.a.f e.b.f 1,m e.a.a.b.a e 2,m e.a.a.b.b e.c.a 3,m e.a.a.b.c e 4,m e.a.a.b.f e.c.a 5,O e.a.a.c.a (.indexSlc 2 (t e.a.a.b.c) (t e.a.a.b.f)) 48 6,O e.a.a.c.b (.loadN 2 (t e.a.a.c.a)) 112 7,m e.a.a.c.c e 8,m e.a.a.c.f e.b.f 9,O e.a.a.f.a (.indexSlc 2 (t e.a.a.c.c) (t e.a.a.c.f)) 768 10,O e.a.a.f.b (.loadN 2 (t e.a.a.f.a)) 1792 11,O e.a.a.f.c (.indexSlc 2 (t e.a.a.a.c) (t e.a.a.a.f)) 4083 12,⟨none,.store 2 (t e.a.a.f.c) (t e.a.a.c.b),none,8179,13⟩,O e.a.a.f.f (.indexSlc 2 (t e.a.a.b.a) (t e.a.a.b.b)) 16383 14,⟨none,.store 2 (t e.a.a.f.f) (t e.a.a.f.b),none,32767,15⟩]).seq ((reg [m e.a.b.a.a e.b.f 0,b e.a.b.a.b .add (t e.a.b.a.a) (k 1) 1,m e.b.f e.a.b.a.b 2]).seq ((reg [m e.a.b.a.c e.c.a 0,b e.a.b.a.f .sub (t e.a.b.a.c) (k 1) 1,m e.c.a e.a.b.a.f 2]).seq ((NC.block 4 xS.loop).seq ((regD [m e.b.a.f.c e 0,m e.b.a.f.f e.c.a 1,m e.b.b.a.a e 2,m e.b.b.a.b e.a 3,m e.b.b.a.c e 4,m e.b.b.a.f e.a 5,O e.b.b.b.a (.indexSlc 2 (t e.b.b.a.c) (t e.b.b.a.f)) 48 6,O e.b.b.b.b (.loadN 2 (t e.b.b.b.a)) 112 7,m e.b.b.b.c e 8,m e.b.b.b.f e.c.a 9,O e.b.b.c.a (.indexSlc 2 (t e.b.b.b.c) (t e.b.b.b.f)) 768 10,O e.b.b.c.b (.loadN 2 (t e.b.b.c.a)) 1792 11,O e.b.b.c.c (.indexSlc 2 (t e.b.a.f.c) (t e.b.a.f.f)) 4083 12,⟨none,.store 2 (t e.b.b.c.c) (t e.b.b.b.b),none,8179,13⟩,O e.b.b.c.f (.indexSlc 2 (t e.b.b.a.a) (t e.b.b.a.b)) 16383 14,⟨none,.store 2 (t e.b.b.c.f) (t e.b.b.c.b),none,32767,15⟩]).seq ((reg [m e.b.b.f.a e.c.a 0,m e.b.b e.b.b.f.a 1,o e.b.c (.move kf) 2]).seq NC.ret))))))))))),178, [.tmp e.b.b,.tmp e.b.c]⟩
theorem Ao:an Try.prog 38=some (.code Ex):=by kernel_rfl
noncomputable def EA:NFun:=⟨(reg [o e.b (.move (k 0)) 0]).seq (((reg [m e.c e 0,b e.f .geq (t e.c) (.const (.int .u32 (.lit 65536))) 1]).seq (NC.cond (t e.f) ((reg [m e.a.a e 0,b e.a.b .shr (t e.a.a) (ku 16) 1,m e e.a.b 2]).seq (reg [o e.b (.move (k 16)) 0])) NC.skip)).seq (((reg [m e.a.c e 0,b e.a.f .geq (t e.a.c) (.const (.int .u32 (.lit 256))) 1]).seq (NC.cond (t e.a.f) ((reg [m e.b.a e 0,b e.b.b .shr (t e.b.a) (ku 8) 1,m e e.b.b 2]).seq (reg [m e.b.c e.b 0,b e.b.f .add (t e.b.c) (k 8) 1,m e.b e.b.f 2])) NC.skip)).seq ((reg [m e.c.a e.b 0,m e.c.b e 1,o e.c.c (.toInt .u8 (t e.c.b)) 2,o e.c.f (.indexStr (.const (.str [0,1,2,2,3,3,3,3,4,4,4,4,4,4,4,4,5,5,5,5,5,5,5,5,5,5,5,5,5,5,5,5,6,6,6,6,6,6,6,6,6,6,6,6,6,6,6,6,6,6,6,6,6,6,6,6,6,6,6,6,6,6,6,6,7,7,7,7,7,7,7,7,7,7,7,7,7,7,7,7,7,7,7,7,7,7,7,7,7,7,7,7,7,7,7,7,7,7,7,7,7,7,7,7,7,7,7,7,7,7,7,7,7,7,7,7,7,7,7,7,7,7,7,7,7,7,7,7,8,8,8,8,8,8,8,8,8,8,8,8,8,8,8,8,8,8,8,8,8,8,8,8,8,8,8,8,8,8,8,8,8,8,8,8,8,8,8,8,8,8,8,8,8,8,8,8,8,8,8,8,8,8,8,8,8,8,8,8,8,8,8,8,8,8,8,8,8,8,8,8,8,8,8,8,8,8,8,8,8,8,8,8,8,8,8,8,8,8,8,8,8,8,8,8,8,8,8,8,8,8,8,8,8,8,8,8,8,8,8,8,8,8,8,8,8,8,8,8,8,8,8,8,8,8,8,8])) (t e.c.c)) 3,o e.f.a (.toInt .i64 (t e.c.f)) 4,b e.f.b .add (t e.c.a) (t e.f.a) 5,m e.b e.f.b 6]).seq NC.ret))),19, [.tmp e.b]⟩
theorem xJ:an Try.prog 39=some (.code EA):=by kernel_rfl
noncomputable def Eo:NFun:=⟨(reg [o e.b (.move (k 0)) 0]).seq (((reg [m e.c e 0,b e.f .geq (t e.c) (ku 4294967296) 1]).seq (NC.cond (t e.f) ((reg [m e.a.a e 0,b e.a.b .shr (t e.a.a) (ku 32) 1,m e e.a.b 2]).seq (reg [o e.b (.move (k 32)) 0])) NC.skip)).seq (((reg [m e.a.c e 0,b e.a.f .geq (t e.a.c) (ku 65536) 1]).seq (NC.cond (t e.a.f) ((reg [m e.b.a e 0,b e.b.b .shr (t e.b.a) (ku 16) 1,m e e.b.b 2]).seq (reg [m e.b.c e.b 0,b e.b.f .add (t e.b.c) (k 16) 1,m e.b e.b.f 2])) NC.skip)).seq (((reg [m e.c.a e 0,b e.c.b .geq (t e.c.a) (ku 256) 1]).seq (NC.cond (t e.c.b) ((reg [m e.c.c e 0,b e.c.f .shr (t e.c.c) (ku 8) 1,m e e.c.f 2]).seq (reg [m e.f.a e.b 0,b e.f.b .add (t e.f.a) (k 8) 1,m e.b e.f.b 2])) NC.skip)).seq ((reg [m e.f.c e.b 0,m e.f.f e 1,o e.a.a.a (.toInt .u8 (t e.f.f)) 2,o e.a.a.b (.indexStr (.const (.str [0,1,2,2,3,3,3,3,4,4,4,4,4,4,4,4,5,5,5,5,5,5,5,5,5,5,5,5,5,5,5,5,6,6,6,6,6,6,6,6,6,6,6,6,6,6,6,6,6,6,6,6,6,6,6,6,6,6,6,6,6,6,6,6,7,7,7,7,7,7,7,7,7,7,7,7,7,7,7,7,7,7,7,7,7,7,7,7,7,7,7,7,7,7,7,7,7,7,7,7,7,7,7,7,7,7,7,7,7,7,7,7,7,7,7,7,7,7,7,7,7,7,7,7,7,7,7,7,8,8,8,8,8,8,8,8,8,8,8,8,8,8,8,8,8,8,8,8,8,8,8,8,8,8,8,8,8,8,8,8,8,8,8,8,8,8,8,8,8,8,8,8,8,8,8,8,8,8,8,8,8,8,8,8,8,8,8,8,8,8,8,8,8,8,8,8,8,8,8,8,8,8,8,8,8,8,8,8,8,8,8,8,8,8,8,8,8,8,8,8,8,8,8,8,8,8,8,8,8,8,8,8,8,8,8,8,8,8,8,8,8,8,8,8,8,8,8,8,8,8,8,8,8,8,8,8])) (t e.a.a.a)) 3,o e.a.a.c (.toInt .i64 (t e.a.a.b)) 4,b e.a.a.f .add (t e.f.c) (t e.a.a.c) 5,m e.b e.a.a.f 6]).seq NC.ret)))),25, [.tmp e.b]⟩
theorem xF:an Try.prog 40=some (.code Eo):=by kernel_rfl
noncomputable def xV:NC:=(reg [m e.a.a e.a.c 0])
noncomputable def yH:NC:=(NC.block 1 (reg [l e.a.f e.b 0,m e.b.a e.a.a 1,o e.b.b (.buildSlice [.int .i64 (.lit 0)] 1 1 3 [(0,1,t e.b.a)]) 2,o e.b.c (.append 1 8 3 (t e.a.f) (t e.b.b)) 3,q (.store 1 (t e.b) (t e.b.c)) 4]))
noncomputable def CT:NFun:=⟨(reg [o e.b (.box (t e) 27) 0,o e.f (.move kn) 1]).seq (((reg [m e.a.b e.a 0]).seq (NC.block 0 (NC.rangeFunc (t e.a.b) [e.a.c] xV yH))).seq ((reg [l e.b.f e.b 0,m e.f e.b.f 1]).seq NC.ret)),13, [.tmp e.f]⟩
theorem zr:an Try.prog 41=some (.code CT):=by kernel_rfl
noncomputable def Ab:NC:=(NC.block 1 ((reg [m e.f.c e.b 0,m e.f.f e.a 1,b e.a.a.a .sub (t e.f.c) (t e.f.f) 2,m e.b.b e.a.a.a 3]).seq (((reg [m e.a.a.b e.b.b 0,b e.a.a.c .leq (t e.a.a.b) (k 12) 1]).seq (NC.cond (t e.a.a.c) ((reg [m e.a.a.f e 0,m e.a.b.a e.a 1,m e.a.b.b e.b 2,o e.a.b.c (.call (F 48) [t e.a.a.f,t e.a.b.a,t e.a.b.b]) 3]).seq NC.ret) NC.skip)).seq (((reg [m e.a.b.f e.c 0,b e.a.c.a .eql (t e.a.b.f) (k 0) 1]).seq (NC.cond (t e.a.c.a) ((reg [m e.a.c.b e 0,m e.a.c.c e.a 1,m e.a.c.f e.b 2,o e.a.f.a (.call (F 49) [t e.a.c.b,t e.a.c.c,t e.a.c.f]) 3]).seq NC.ret) NC.skip)).seq (((reg [m e.a.f.b e.a.f 0,o e.a.f.c (.un .not (t e.a.f.b)) 1]).seq (NC.cond (t e.a.f.c) ((reg [m e.a.f.f e 0,m e.b.a.a e.a 1,m e.b.a.b e.b 2,o e.b.a.c (.call (F 50) [t e.a.f.f,t e.b.a.a,t e.b.a.b]) 3]).seq (reg [m e.b.a.f e.c 0,b e.b.b.a .sub (t e.b.a.f) (k 1) 1,m e.c e.b.b.a 2])) NC.skip)).seq ((reg [m e.b.b.c e 0,m e.b.b.f e.a 1,m e.b.c.a e.b 2,o e.b.c.b (.call (F 51) [t e.b.b.c,t e.b.b.f,t e.b.c.a]) 3,m e.b.b.b e.b.c.b 4,x e.b.c.c e.b.b.b 0 5,x e.b.c.f e.b.b.b 1 6,m e.b.c e.b.c.c 7,m e.b.f e.b.c.f 8]).seq (((reg [m e.b.f.a e.b.f 0,b e.b.f.b .eql (t e.b.f.a) (k 2) 1]).seq (NC.cond (t e.b.f.b) ((reg [m e.b.f.c e 0,m e.b.f.f e.a 1,m e.c.a.a e.b 2,o e.c.a.b (.call (F 52) [t e.b.f.c,t e.b.f.f,t e.c.a.a]) 3]).seq ((reg [m e.c.a.c e.b 0,b e.c.a.f .sub (t e.c.a.c) (k 1) 1,m e.c.b.a e.b.c 2,m e.c.b.b e.a 3,b e.c.b.c .sub (t e.c.b.a) (t e.c.b.b) 4,b e.c.b.f .sub (t e.c.a.f) (t e.c.b.c) 5,m e.b.c e.c.b.f 6]).seq (reg [o e.b.f (.move (k 1)) 0]))) NC.skip)).seq (((reg [m e.c.c.a e.a.f 0,m e.c.c.b e.c.c.a 1,G e.c.c.c (.move (t e.b.a)) e.c.c.b true 2,o e.c.c.f (.pick (t e.c.c.b) (t e.c.c.c) kf) 3,m e.c.f.a e.c.c.f 4,G e.c.f.b (.move (t e.b.f)) e.c.f.a true 5,G e.c.f.c (.bin .num .eql (t e.c.f.b) (k 1)) e.c.f.a true 6,o e.c.f.f (.pick (t e.c.f.a) (t e.c.f.c) kf) 7]).seq (NC.cond (t e.c.f.f) ((reg [m e.f.a.a e 0,m e.f.a.b e.a 1,m e.f.a.c e.b 2,o e.f.a.f (.call (F 53) [t e.f.a.a,t e.f.a.b,t e.f.a.c]) 3]).seq (NC.cond (t e.f.a.f) NC.ret NC.skip)) NC.skip)).seq (((regD [m e.f.b.a e.a 0,O e.f.b.b (.bin .num .gtr (t e.f.b.a) (k 0)) 1 1,O e.f.b.c (.move (t e.f.b.b)) 3 2,⟨some e.f.b.f,.move (t e),some (e.f.b.c,true),7,3⟩,⟨some e.f.c.a,.move (t e.a),some (e.f.b.c,true),7,4⟩,⟨some e.f.c.b,.bin .num .sub (t e.f.c.a) (k 1),some (e.f.b.c,true),23,5⟩,⟨some e.f.c.c,.indexSlc 1 (t e.f.b.f) (t e.f.c.b),some (e.f.b.c,true),63,6⟩,⟨some e.f.c.f,.load1 (t e.f.c.c),some (e.f.b.c,true),127,7⟩,⟨some e.f.f.a,.move (t e),some (e.f.b.c,true),7,8⟩,⟨some e.f.f.b,.move (t e.b.c),some (e.f.b.c,true),7,9⟩,⟨some e.f.f.c,.indexSlc 1 (t e.f.f.a) (t e.f.f.b),some (e.f.b.c,true),775,10⟩,⟨some e.f.f.f,.load1 (t e.f.f.c),some (e.f.b.c,true),1799,11⟩,⟨some e.a.a.a.a,.call (F 54) [t e.f.c.f,t e.f.f.f],some (e.f.b.c,true),4095,12⟩,⟨some e.a.a.a.b,.un .not (t e.a.a.a.a),some (e.f.b.c,true),8191,13⟩,O e.a.a.a.c (.pick (t e.f.b.c) (t e.a.a.a.b) kf) 16383 14]).seq (NC.cond (t e.a.a.a.c) ((reg [m e.a.a.a.f e 0,m e.a.a.b.a e.a 1,m e.a.a.b.b e.b 2,m e.a.a.b.c e.b.c 3,o e.a.a.b.f (.call (F 55) [t e.a.a.a.f,t e.a.a.b.a,t e.a.a.b.b,t e.a.a.b.c]) 4,m e.c.a e.a.a.b.f 5]).seq ((reg [m e.a.a.c.a e.c.a 0,m e.a e.a.a.c.a 1]).seq (NC.exit 1))) NC.skip)).seq ((reg [m e.a.a.c.c e 0,m e.a.a.c.f e.a 1,m e.a.a.f.a e.b 2,m e.a.a.f.b e.b.c 3,o e.a.a.f.c (.call (F 56) [t e.a.a.c.c,t e.a.a.c.f,t e.a.a.f.a,t e.a.a.f.b]) 4,m e.a.a.c.b e.a.a.f.c 5,x e.a.a.f.f e.a.a.c.b 0 6,x e.a.b.a.a e.a.a.c.b 1 7,m e.c.b e.a.a.f.f 8,m e.c.c e.a.b.a.a 9]).seq ((reg [m e.a.b.a.b e.c.c 0,m e.b.a e.a.b.a.b 1]).seq ((reg [m e.a.b.a.c e.c.b 0,m e.a.b.a.f e.a 1,b e.a.b.b.a .sub (t e.a.b.a.c) (t e.a.b.a.f) 2,m e.a.b.b.b e.b 3,m e.a.b.b.c e.c.b 4,b e.a.b.b.f .sub (t e.a.b.b.b) (t e.a.b.b.c) 5,m e.c.f e.a.b.b.a 6,m e.f.a e.a.b.b.f 7]).seq ((reg [m e.a.b.c.a e.b.b 0,b e.a.b.c.b .quo (t e.a.b.c.a) (k 8) 1,m e.f.b e.a.b.c.b 2]).seq ((reg [m e.a.b.c.c e.c.f 0,m e.a.b.c.f e.f.a 1,b e.a.b.f.a .lss (t e.a.b.c.c) (t e.a.b.c.f) 2]).seq (NC.cond (t e.a.b.f.a) ((reg [m e.a.b.f.b e.c.f 0,m e.a.b.f.c e.f.b 1,b e.a.b.f.f .geq (t e.a.b.f.b) (t e.a.b.f.c) 2,m e.a.f e.a.b.f.f 3]).seq ((reg [m e.a.c.a.a e 0,m e.a.c.a.b e.a 1,m e.a.c.a.c e.c.b 2,m e.a.c.a.f e.c 3,o e.a.c.b.a (.call (F 42) [t e.a.c.a.a,t e.a.c.a.b,t e.a.c.a.c,t e.a.c.a.f]) 4]).seq (reg [m e.a.c.b.b e.c.b 0,b e.a.c.b.c .add (t e.a.c.b.b) (k 1) 1,m e.a e.a.c.b.c 2]))) ((reg [m e.a.c.b.f e.f.a 0,m e.a.c.c.a e.f.b 1,b e.a.c.c.b .geq (t e.a.c.b.f) (t e.a.c.c.a) 2,m e.a.f e.a.c.c.b 3]).seq ((reg [m e.a.c.c.c e 0,m e.a.c.c.f e.c.b 1,b e.a.c.f.a .add (t e.a.c.c.f) (k 1) 2,m e.a.c.f.b e.b 3,m e.a.c.f.c e.c 4,o e.a.c.f.f (.call (F 42) [t e.a.c.c.c,t e.a.c.f.a,t e.a.c.f.b,t e.a.c.f.c]) 5]).seq (reg [m e.a.f.a.a e.c.b 0,m e.b e.a.f.a.a 1]))))))))))))))))))
noncomputable def Dt:NFun:=⟨(reg [o e.a.f (.move kt) 0]).seq ((reg [o e.b.a (.move kt) 0]).seq (NC.block 0 Ab.loop)),134, []⟩
theorem x8:an Try.prog 42=some (.code Dt):=by kernel_rfl
noncomputable def Ai:NC:=(NC.block 1 ((reg [m e.c.a e.b.b 0,b e.c.b .mul (k 2) (t e.c.a) 1,b e.c.c .add (t e.c.b) (k 1) 2,m e.b.c e.c.c 3]).seq (((reg [m e.c.f e.b.c 0,m e.f.a e.b 1,b e.f.b .geq (t e.c.f) (t e.f.a) 2]).seq (NC.cond (t e.f.b) (NC.exit 0) NC.skip)).seq (((regD [m e.f.c e.b.c 0,O e.f.f (.bin .num .add (t e.f.c) (k 1)) 1 1,m e.a.a.a e.b 2,O e.a.a.b (.bin .num .lss (t e.f.f) (t e.a.a.a)) 7 3,O e.a.a.c (.move (t e.a.a.b)) 15 4,⟨some e.a.a.f,.move (t e.f),some (e.a.a.c,true),31,5⟩,⟨some e.a.b.a,.move (t e),some (e.a.a.c,true),31,6⟩,⟨some e.a.b.b,.move (t e.c),some (e.a.a.c,true),31,7⟩,⟨some e.a.b.c,.move (t e.b.c),some (e.a.a.c,true),31,8⟩,⟨some e.a.b.f,.bin .num .add (t e.a.b.b) (t e.a.b.c),some (e.a.a.c,true),415,9⟩,⟨some e.a.c.a,.indexSlc 2 (t e.a.b.a) (t e.a.b.f),some (e.a.a.c,true),991,10⟩,⟨some e.a.c.b,.loadN 2 (t e.a.c.a),some (e.a.a.c,true),2015,11⟩,⟨some e.a.c.c,.move (t e),some (e.a.a.c,true),31,12⟩,⟨some e.a.c.f,.move (t e.c),some (e.a.a.c,true),31,13⟩,⟨some e.a.f.a,.move (t e.b.c),some (e.a.a.c,true),31,14⟩,⟨some e.a.f.b,.bin .num .add (t e.a.c.f) (t e.a.f.a),some (e.a.a.c,true),24607,15⟩,⟨some e.a.f.c,.bin .num .add (t e.a.f.b) (k 1),some (e.a.a.c,true),57375,16⟩,⟨some e.a.f.f,.indexSlc 2 (t e.a.c.c) (t e.a.f.c),some (e.a.a.c,true),127007,17⟩,⟨some e.b.a.a,.loadN 2 (t e.a.f.f),some (e.a.a.c,true),258079,18⟩,⟨some e.b.a.b,.call (t e.a.a.f) [t e.a.c.b,t e.b.a.a],some (e.a.a.c,true),524287,19⟩,⟨some e.b.a.c,.bin .num .lss (t e.b.a.b) (k 0),some (e.a.a.c,true),1048575,20⟩,O e.b.a.f (.pick (t e.a.a.c) (t e.b.a.c) kf) 2097151 21]).seq (NC.cond (t e.b.a.f) (reg [m e.b.b.a e.b.c 0,b e.b.b.b .add (t e.b.b.a) (k 1) 1,m e.b.c e.b.b.b 2]) NC.skip)).seq (((regD [m e.b.b.c e.f 0,m e.b.b.f e 1,m e.b.c.a e.c 2,m e.b.c.b e.b.b 3,O e.b.c.c (.bin .num .add (t e.b.c.a) (t e.b.c.b)) 12 4,O e.b.c.f (.indexSlc 2 (t e.b.b.f) (t e.b.c.c)) 30 5,O e.b.f.a (.loadN 2 (t e.b.c.f)) 62 6,m e.b.f.b e 7,m e.b.f.c e.c 8,m e.b.f.f e.b.c 9,O e.c.a.a (.bin .num .add (t e.b.f.c) (t e.b.f.f)) 768 10,O e.c.a.b (.indexSlc 2 (t e.b.f.b) (t e.c.a.a)) 1920 11,O e.c.a.c (.loadN 2 (t e.c.a.b)) 3968 12,O e.c.a.f (.call (t e.b.b.c) [t e.b.f.a,t e.c.a.c]) 8191 13,O e.c.b.a (.bin .num .lss (t e.c.a.f) (k 0)) 16383 14,O e.c.b.b (.un .not (t e.c.b.a)) 32767 15]).seq (NC.cond (t e.c.b.b) NC.ret NC.skip)).seq ((regD [m e.c.b.c e 0,m e.c.b.f e.c 1,m e.c.c.a e.b.b 2,O e.c.c.b (.bin .num .add (t e.c.b.f) (t e.c.c.a)) 6 3,m e.c.c.c e 4,m e.c.c.f e.c 5,m e.c.f.a e.b.c 6,O e.c.f.b (.bin .num .add (t e.c.c.f) (t e.c.f.a)) 96 7,m e.c.f.c e 8,m e.c.f.f e.c 9,m e.f.a.a e.b.c 10,O e.f.a.b (.bin .num .add (t e.c.f.f) (t e.f.a.a)) 1536 11,O e.f.a.c (.indexSlc 2 (t e.c.f.c) (t e.f.a.b)) 3840 12,O e.f.a.f (.loadN 2 (t e.f.a.c)) 7936 13,m e.f.b.a e 14,m e.f.b.b e.c 15,m e.f.b.c e.b.b 16,O e.f.b.f (.bin .num .add (t e.f.b.b) (t e.f.b.c)) 98304 17,O e.f.c.a (.indexSlc 2 (t e.f.b.a) (t e.f.b.f)) 245760 18,O e.f.c.b (.loadN 2 (t e.f.c.a)) 507904 19,O e.f.c.c (.indexSlc 2 (t e.c.b.c) (t e.c.c.b)) 1048335 20,⟨none,.store 2 (t e.f.c.c) (t e.f.a.f),none,2096911,21⟩,O e.f.c.f (.indexSlc 2 (t e.c.c.c) (t e.c.f.b)) 4194303 22,⟨none,.store 2 (t e.f.c.f) (t e.f.c.b),none,8388607,23⟩]).seq (reg [m e.f.f.a e.b.c 0,m e.b.b e.f.f.a 1])))))))
noncomputable def CU:NFun:=⟨(reg [m e.b.f e.a 0,m e.b.b e.b.f 1]).seq (NC.block 0 Ai.loop),82, []⟩
theorem xe:an Try.prog 43=some (.code CU):=by kernel_rfl
noncomputable def DW:NFun:=⟨(reg [o e.b (.move (ku 0)) 0]).seq ((reg [m e.c e 0,o e.f (.toInt .u64 (t e.c)) 1,o e.a.a (.call (F 25) [t e.f]) 2,b e.a.b .shl (ku 1) (t e.a.a) 3,m e.b e.a.b 4]).seq NC.ret),7, [.tmp e.b]⟩
theorem yA:an Try.prog 44=some (.code DW):=by kernel_rfl
noncomputable def DO:NFun:=⟨(reg [o e.b (.move (ku 0)) 0]).seq ((regD [m e.c e 0,O e.f (.nilCheck (t e.c)) 1 1,O e.a.a (.load1 (t e.f)) 3 2,m e.a.b e 3,O e.a.c (.nilCheck (t e.a.b)) 8 4,O e.a.f (.load1 (t e.a.c)) 24 5,O e.b.a (.bin .num .shl (t e.a.f) (ku 13)) 56 6,O e.b.b (.bin .num .xor (t e.a.a) (t e.b.a)) 127 7,O e.b.c (.nilCheck (t e.c)) 255 8,⟨none,.store 1 (t e.b.c) (t e.b.b),none,511,9⟩]).seq ((regD [m e.b.f e 0,O e.c.a (.nilCheck (t e.b.f)) 1 1,O e.c.b (.load1 (t e.c.a)) 3 2,m e.c.c e 3,O e.c.f (.nilCheck (t e.c.c)) 8 4,O e.f.a (.load1 (t e.c.f)) 24 5,O e.f.b (.bin .num .shr (t e.f.a) (ku 7)) 56 6,O e.f.c (.bin .num .xor (t e.c.b) (t e.f.b)) 127 7,O e.f.f (.nilCheck (t e.b.f)) 255 8,⟨none,.store 1 (t e.f.f) (t e.f.c),none,511,9⟩]).seq ((regD [m e.a.a.a e 0,O e.a.a.b (.nilCheck (t e.a.a.a)) 1 1,O e.a.a.c (.load1 (t e.a.a.b)) 3 2,m e.a.a.f e 3,O e.a.b.a (.nilCheck (t e.a.a.f)) 8 4,O e.a.b.b (.load1 (t e.a.b.a)) 24 5,O e.a.b.c (.bin .num .shl (t e.a.b.b) (ku 17)) 56 6,O e.a.b.f (.bin .num .xor (t e.a.a.c) (t e.a.b.c)) 127 7,O e.a.c.a (.nilCheck (t e.a.a.a)) 255 8,⟨none,.store 1 (t e.a.c.a) (t e.a.b.f),none,511,9⟩]).seq ((reg [m e.a.c.b e 0,n e.a.c.c e.a.c.b 1,l e.a.c.f e.a.c.c 2,m e.b e.a.c.f 3]).seq NC.ret)))),33, [.tmp e.b]⟩
theorem xQ:an Try.prog 45=some (.code DO):=by kernel_rfl
noncomputable def EE:NFun:=⟨(reg [o e.a.f (.move (k 0)) 0]).seq ((reg [m e.b.a e 0,m e.b.b e.a 1,b e.b.c .sub (t e.b.b) (k 1) 2,m e.b.f e.a 3,m e.c.a e.a 4,b e.c.b .add (t e.c.a) (k 1) 5,m e.c.c e.b 6,m e.c.f e.c 7,o e.f.a (.call (F 47) [t e.b.a,t e.b.c,t e.b.f,t e.c.b,t e.c.c,t e.c.f]) 8,m e.a.f e.f.a 9]).seq NC.ret),18, [.tmp e.a.f]⟩
theorem Ac:an Try.prog 46=some (.code EE):=by kernel_rfl
noncomputable def Dg:NFun:=⟨(reg [o e.b.f (.move (k 0)) 0]).seq ((reg [m e.c.b e 0,m e.c.c e.a 1,m e.c.f e.b 2,m e.f.a e.f 3,m e.f.b e.a.a 4,o e.f.c (.call (F 57) [t e.c.b,t e.c.c,t e.c.f,t e.f.a,t e.f.b]) 5,m e.c.a e.f.c 6,x e.f.f e.c.a 0 7,x e.a.a.a e.c.a 1 8,m e.a e.f.f 9,m e.b e.a.a.a 10]).seq ((reg [m e.a.a.c e 0,m e.a.a.f e.b 1,m e.a.b.a e.c 2,m e.a.b.b e.f 3,m e.a.b.c e.a.a 4,o e.a.b.f (.call (F 57) [t e.a.a.c,t e.a.a.f,t e.a.b.a,t e.a.b.b,t e.a.b.c]) 5,m e.a.a.b e.a.b.f 6,x e.a.c.a e.a.a.b 0 7,x e.a.c.b e.a.a.b 1 8,m e.b e.a.c.a 9,m e.c e.a.c.b 10]).seq ((reg [m e.a.c.f e 0,m e.a.f.a e.a 1,m e.a.f.b e.b 2,m e.a.f.c e.f 3,m e.a.f.f e.a.a 4,o e.b.a.a (.call (F 57) [t e.a.c.f,t e.a.f.a,t e.a.f.b,t e.a.f.c,t e.a.f.f]) 5,m e.a.c.c e.b.a.a 6,x e.b.a.b e.a.c.c 0 7,x e.b.a.c e.a.c.c 1 8,m e.a e.b.a.b 9,m e.b e.b.a.c 10]).seq ((reg [m e.b.a.f e.b 0,m e.b.f e.b.a.f 1]).seq NC.ret)))),41, [.tmp e.b.f]⟩
theorem y8:an Try.prog 47=some (.code Dg):=by kernel_rfl
noncomputable def zf:NC:=(((regD [m e.c.f e.a.c 0,m e.f.a e.a 1,O e.f.b (.bin .num .gtr (t e.c.f) (t e.f.a)) 3 2,O e.f.c (.move (t e.f.b)) 7 3,⟨some e.f.f,.move (t e),some (e.f.c,true),15,4⟩,⟨some e.a.a.a,.move (t e.a.c),some (e.f.c,true),15,5⟩,⟨some e.a.a.b,.indexSlc 1 (t e.f.f) (t e.a.a.a),some (e.f.c,true),63,6⟩,⟨some e.a.a.c,.load1 (t e.a.a.b),some (e.f.c,true),127,7⟩,⟨some e.a.a.f,.move (t e),some (e.f.c,true),15,8⟩,⟨some e.a.b.a,.move (t e.a.c),some (e.f.c,true),15,9⟩,⟨some e.a.b.b,.bin .num .sub (t e.a.b.a) (k 1),some (e.f.c,true),527,10⟩,⟨some e.a.b.c,.indexSlc 1 (t e.a.a.f) (t e.a.b.b),some (e.f.c,true),1807,11⟩,⟨some e.a.b.f,.load1 (t e.a.b.c),some (e.f.c,true),3855,12⟩,⟨some e.a.c.a,.call (F 54) [t e.a.a.c,t e.a.b.f],some (e.f.c,true),8191,13⟩,O e.a.c.b (.pick (t e.f.c) (t e.a.c.a) kf) 16383 14]).seq (NC.cond (t e.a.c.b) NC.skip (NC.exit 2))).seq ((NC.block 3 (regD [m e.a.f.a e 0,m e.a.f.b e.a.c 1,m e.a.f.c e 2,m e.a.f.f e.a.c 3,O e.b.a.a (.bin .num .sub (t e.a.f.f) (k 1)) 8 4,m e.b.a.b e 5,m e.b.a.c e.a.c 6,O e.b.a.f (.bin .num .sub (t e.b.a.c) (k 1)) 64 7,O e.b.b.a (.indexSlc 1 (t e.b.a.b) (t e.b.a.f)) 224 8,O e.b.b.b (.load1 (t e.b.b.a)) 480 9,m e.b.b.c e 10,m e.b.b.f e.a.c 11,O e.b.c.a (.indexSlc 1 (t e.b.b.c) (t e.b.b.f)) 3072 12,O e.b.c.b (.load1 (t e.b.c.a)) 7168 13,O e.b.c.c (.indexSlc 1 (t e.a.f.a) (t e.a.f.b)) 16355 14,⟨none,.store 1 (t e.b.c.c) (t e.b.b.b),none,32739,15⟩,O e.b.c.f (.indexSlc 1 (t e.a.f.c) (t e.b.a.a)) 65535 16,⟨none,.store 1 (t e.b.c.f) (t e.b.c.b),none,131071,17⟩])).seq (reg [m e.a.c.c e.a.c 0,b e.a.c.f .sub (t e.a.c.c) (k 1) 1,m e.a.c e.a.c.f 2])))
noncomputable def yS:NC:=(((reg [m e.b.b e.a.b 0,m e.b.c e.b 1,b e.b.f .lss (t e.b.b) (t e.b.c) 2]).seq (NC.cond (t e.b.f) NC.skip (NC.exit 0))).seq ((NC.block 1 ((reg [m e.c.c e.a.b 0,m e.a.c e.c.c 1]).seq (NC.block 2 zf.loop))).seq (reg [m e.c.a e.a.b 0,b e.c.b .add (t e.c.a) (k 1) 1,m e.a.b e.c.b 2])))
noncomputable def DD:NFun:=⟨(reg [m e.a.f e.a 0,b e.b.a .add (t e.a.f) (k 1) 1,m e.a.b e.b.a 2]).seq (NC.block 0 yS.loop),49, []⟩
theorem yr:an Try.prog 48=some (.code DD):=by kernel_rfl
noncomputable def yF:NC:=(((reg [m e.f.b e.b.a 0,b e.f.c .geq (t e.f.b) (k 0) 1]).seq (NC.cond (t e.f.c) NC.skip (NC.exit 0))).seq ((NC.block 1 (reg [m e.a.a.b e 0,m e.a.a.c e.b.a 1,m e.a.a.f e.a.f 2,m e.a.b.a e.a.b 3,o e.a.b.b (.call (F 58) [t e.a.a.b,t e.a.a.c,t e.a.a.f,t e.a.b.a]) 4])).seq (reg [m e.f.f e.b.a 0,b e.a.a.a .sub (t e.f.f) (k 1) 1,m e.b.a e.a.a.a 2])))
noncomputable def zk:NC:=(((reg [m e.a.c.a e.b.b 0,b e.a.c.b .geq (t e.a.c.a) (k 0) 1]).seq (NC.cond (t e.a.c.b) NC.skip (NC.exit 2))).seq ((NC.block 3 ((regD [m e.a.f.a e 0,m e.a.f.b e.a.b 1,m e.a.f.c e 2,m e.a.f.f e.a.b 3,m e.b.a.a e.b.b 4,O e.b.a.b (.bin .num .add (t e.a.f.f) (t e.b.a.a)) 24 5,m e.b.a.c e 6,m e.b.a.f e.a.b 7,m e.b.b.a e.b.b 8,O e.b.b.b (.bin .num .add (t e.b.a.f) (t e.b.b.a)) 384 9,O e.b.b.c (.indexSlc 1 (t e.b.a.c) (t e.b.b.b)) 960 10,O e.b.b.f (.load1 (t e.b.b.c)) 1984 11,m e.b.c.a e 12,m e.b.c.b e.a.b 13,O e.b.c.c (.indexSlc 1 (t e.b.c.a) (t e.b.c.b)) 12288 14,O e.b.c.f (.load1 (t e.b.c.c)) 28672 15,O e.b.f.a (.indexSlc 1 (t e.a.f.a) (t e.a.f.b)) 65475 16,⟨none,.store 1 (t e.b.f.a) (t e.b.b.f),none,131011,17⟩,O e.b.f.b (.indexSlc 1 (t e.a.f.c) (t e.b.a.b)) 262143 18,⟨none,.store 1 (t e.b.f.b) (t e.b.c.f),none,524287,19⟩]).seq (reg [m e.b.f.c e 0,m e.b.f.f e.a.c 1,m e.c.a.a e.b.b 2,m e.c.a.b e.a.b 3,o e.c.a.c (.call (F 58) [t e.b.f.c,t e.b.f.f,t e.c.a.a,t e.c.a.b]) 4]))).seq (reg [m e.a.c.c e.b.b 0,b e.a.c.f .sub (t e.a.c.c) (k 1) 1,m e.b.b e.a.c.f 2])))
noncomputable def CL:NFun:=⟨(reg [m e.b.c e.a 0,m e.a.b e.b.c 1]).seq ((reg [o e.a.c (.move (k 0)) 0]).seq ((reg [m e.b.f e.b 0,m e.c.a e.a 1,b e.c.b .sub (t e.b.f) (t e.c.a) 2,m e.a.f e.c.b 3]).seq (((reg [m e.c.c e.a.f 0,b e.c.f .sub (t e.c.c) (k 1) 1,b e.f.a .quo (t e.c.f) (k 2) 2,m e.b.a e.f.a 3]).seq (NC.block 0 yF.loop)).seq ((reg [m e.a.b.c e.a.f 0,b e.a.b.f .sub (t e.a.b.c) (k 1) 1,m e.b.b e.a.b.f 2]).seq (NC.block 2 zk.loop))))),56, []⟩
theorem yo:an Try.prog 49=some (.code CL):=by kernel_rfl
noncomputable def zV:NC:=(((reg [m e.a.b.b e.b.a 0,m e.a.b.c e.a 1,m e.a.b.f e.a.b 2,b e.a.c.a .quo (t e.a.b.f) (k 4) 3,b e.a.c.b .mul (t e.a.c.a) (k 2) 4,b e.a.c.c .add (t e.a.b.c) (t e.a.c.b) 5,b e.a.c.f .add (t e.a.c.c) (k 1) 6,b e.a.f.a .leq (t e.a.b.b) (t e.a.c.f) 7]).seq (NC.cond (t e.a.f.a) NC.skip (NC.exit 0))).seq ((NC.block 1 ((reg [o e.a.f.f (.call (F 45) [t e.a.c]) 0,m e.b.a.a e.a.f 1,b e.b.a.b .sub (t e.b.a.a) (ku 1) 2,b e.b.a.c .and (t e.a.f.f) (t e.b.a.b) 3,o e.b.a.f (.toInt .i64 (t e.b.a.c)) 4,m e.b.b e.b.a.f 5]).seq (((reg [m e.b.b.a e.b.b 0,m e.b.b.b e.a.b 1,b e.b.b.c .geq (t e.b.b.a) (t e.b.b.b) 2]).seq (NC.cond (t e.b.b.c) (reg [m e.b.b.f e.b.b 0,m e.b.c.a e.a.b 1,b e.b.c.b .sub (t e.b.b.f) (t e.b.c.a) 2,m e.b.b e.b.c.b 3]) NC.skip)).seq (regD [m e.b.c.c e 0,m e.b.c.f e.b.a 1,m e.b.f.a e 2,m e.b.f.b e.a 3,m e.b.f.c e.b.b 4,O e.b.f.f (.bin .num .add (t e.b.f.b) (t e.b.f.c)) 24 5,m e.c.a.a e 6,m e.c.a.b e.a 7,m e.c.a.c e.b.b 8,O e.c.a.f (.bin .num .add (t e.c.a.b) (t e.c.a.c)) 384 9,O e.c.b.a (.indexSlc 1 (t e.c.a.a) (t e.c.a.f)) 960 10,O e.c.b.b (.load1 (t e.c.b.a)) 1984 11,m e.c.b.c e 12,m e.c.b.f e.b.a 13,O e.c.c.a (.indexSlc 1 (t e.c.b.c) (t e.c.b.f)) 12288 14,O e.c.c.b (.load1 (t e.c.c.a)) 28672 15,O e.c.c.c (.indexSlc 1 (t e.b.c.c) (t e.b.c.f)) 65475 16,⟨none,.store 1 (t e.c.c.c) (t e.c.b.b),none,131011,17⟩,O e.c.c.f (.indexSlc 1 (t e.b.f.a) (t e.b.f.f)) 262143 18,⟨none,.store 1 (t e.c.c.f) (t e.c.c.b),none,524287,19⟩])))).seq (reg [m e.a.f.b e.b.a 0,b e.a.f.c .add (t e.a.f.b) (k 1) 1,m e.b.a e.a.f.c 2])))
noncomputable def Ee:NFun:=⟨(reg [m e.b.c e.b 0,m e.b.f e.a 1,b e.c.a .sub (t e.b.c) (t e.b.f) 2,m e.a.b e.c.a 3]).seq ((reg [m e.c.b e.a.b 0,b e.c.c .geq (t e.c.b) (k 8) 1]).seq (NC.cond (t e.c.c) ((reg [m e.c.f e.a.b 0,o e.f.a (.toInt .u64 (t e.c.f)) 1,o e.a.c (.alloc [.int .u64 (.lit 0)] 79) 2,q (.store 1 (t e.a.c) (t e.f.a)) 3]).seq ((reg [m e.f.b e.a.b 0,o e.f.c (.call (F 44) [t e.f.b]) 1,m e.a.f e.f.c 2]).seq ((reg [m e.f.f e.a 0,m e.a.a.a e.a.b 1,b e.a.a.b .quo (t e.a.a.a) (k 4) 2,b e.a.a.c .mul (t e.a.a.b) (k 2) 3,b e.a.a.f .add (t e.f.f) (t e.a.a.c) 4,b e.a.b.a .sub (t e.a.a.f) (k 1) 5,m e.b.a e.a.b.a 6]).seq (NC.block 0 zV.loop)))) NC.skip)),65, []⟩
theorem xB:an Try.prog 50=some (.code Ee):=by kernel_rfl
noncomputable def Dl:NFun:=⟨(reg [o e.a.b (.move (k 0)) 0,o e.a.c (.move (k 0)) 1]).seq ((reg [m e.c.a e.b 0,m e.c.b e.a 1,b e.c.c .sub (t e.c.a) (t e.c.b) 2,m e.a.f e.c.c 3]).seq ((reg [o e.b.a (.alloc [.int .i64 (.lit 0)] 3) 0]).seq ((reg [m e.c.f e.a 0,m e.f.a e.a.f 1,b e.f.b .quo (t e.f.a) (k 4) 2,b e.f.c .mul (t e.f.b) (k 1) 3,b e.f.f .add (t e.c.f) (t e.f.c) 4,m e.b.b e.f.f 5]).seq ((reg [m e.a.a.a e.a 0,m e.a.a.b e.a.f 1,b e.a.a.c .quo (t e.a.a.b) (k 4) 2,b e.a.a.f .mul (t e.a.a.c) (k 2) 3,b e.a.b.a .add (t e.a.a.a) (t e.a.a.f) 4,m e.b.c e.a.b.a 5]).seq ((reg [m e.a.b.b e.a 0,m e.a.b.c e.a.f 1,b e.a.b.f .quo (t e.a.b.c) (k 4) 2,b e.a.c.a .mul (t e.a.b.f) (k 3) 3,b e.a.c.b .add (t e.a.b.b) (t e.a.c.a) 4,m e.b.f e.a.c.b 5]).seq (((reg [m e.a.c.c e.a.f 0,b e.a.c.f .geq (t e.a.c.c) (k 8) 1]).seq (NC.cond (t e.a.c.f) (((reg [m e.a.f.a e.a.f 0,b e.a.f.b .geq (t e.a.f.a) (k 50) 1]).seq (NC.cond (t e.a.f.b) ((reg [m e.a.f.c e 0,m e.a.f.f e.b.b 1,o e.b.a.a (.call (F 59) [t e.a.f.c,t e.a.f.f,t e.b.a]) 2,m e.b.b e.b.a.a 3]).seq ((reg [m e.b.a.b e 0,m e.b.a.c e.b.c 1,o e.b.a.f (.call (F 59) [t e.b.a.b,t e.b.a.c,t e.b.a]) 2,m e.b.c e.b.a.f 3]).seq (reg [m e.b.b.a e 0,m e.b.b.b e.b.f 1,o e.b.b.c (.call (F 59) [t e.b.b.a,t e.b.b.b,t e.b.a]) 2,m e.b.f e.b.b.c 3]))) NC.skip)).seq (reg [m e.b.b.f e 0,m e.b.c.a e.b.b 1,m e.b.c.b e.b.c 2,m e.b.c.c e.b.f 3,o e.b.c.f (.call (F 60) [t e.b.b.f,t e.b.c.a,t e.b.c.b,t e.b.c.c,t e.b.a]) 4,m e.b.c e.b.c.f 5])) NC.skip)).seq ((reg [l e.b.f.a e.b.a 0]).seq (NC.block 0 ((reg [b e.b.f.f .eql (t e.b.f.a) (k 0) 0,m e.b.f.c e.b.f.f 1]).seq (NC.cond (t e.b.f.c) ((reg [m e.c.a.a e.b.c 0,m e.a.b e.c.a.a 1,o e.a.c (.move (k 1)) 2]).seq NC.ret) ((reg [b e.c.a.c .eql (t e.b.f.a) (k 12) 0,m e.c.a.b e.c.a.c 1]).seq (NC.cond (t e.c.a.b) ((reg [m e.c.a.f e.b.c 0,m e.a.b e.c.a.f 1,o e.a.c (.move (k 2)) 2]).seq NC.ret) ((reg [m e.b.f.b e.b.c 0,m e.a.b e.b.f.b 1,o e.a.c (.move (k 0)) 2]).seq NC.ret))))))))))))),57, [.tmp e.a.b,.tmp e.a.c]⟩
theorem y6:an Try.prog 51=some (.code Dl):=by kernel_rfl
noncomputable def yV:NC:=(((reg [m e.b.c e.a.b 0,m e.b.f e.a.c 1,b e.c.a .lss (t e.b.c) (t e.b.f) 2]).seq (NC.cond (t e.c.a) NC.skip (NC.exit 0))).seq (NC.block 1 ((regD [m e.c.b e 0,m e.c.c e.a.b 1,m e.c.f e 2,m e.f.a e.a.c 3,m e.f.b e 4,m e.f.c e.a.c 5,O e.f.f (.indexSlc 1 (t e.f.b) (t e.f.c)) 48 6,O e.a.a.a (.load1 (t e.f.f)) 112 7,m e.a.a.b e 8,m e.a.a.c e.a.b 9,O e.a.a.f (.indexSlc 1 (t e.a.a.b) (t e.a.a.c)) 768 10,O e.a.b.a (.load1 (t e.a.a.f)) 1792 11,O e.a.b.b (.indexSlc 1 (t e.c.b) (t e.c.c)) 4083 12,⟨none,.store 1 (t e.a.b.b) (t e.a.a.a),none,8179,13⟩,O e.a.b.c (.indexSlc 1 (t e.c.f) (t e.f.a)) 16383 14,⟨none,.store 1 (t e.a.b.c) (t e.a.b.a),none,32767,15⟩]).seq ((reg [m e.a.b.f e.a.b 0,b e.a.c.a .add (t e.a.b.f) (k 1) 1,m e.a.b e.a.c.a 2]).seq (reg [m e.a.c.b e.a.c 0,b e.a.c.c .sub (t e.a.c.b) (k 1) 1,m e.a.c e.a.c.c 2])))))
noncomputable def Dh:NFun:=⟨(reg [m e.a.f e.a 0,m e.a.b e.a.f 1]).seq ((reg [m e.b.a e.b 0,b e.b.b .sub (t e.b.a) (k 1) 1,m e.a.c e.b.b 2]).seq (NC.block 0 yV.loop)),32, []⟩
theorem yN:an Try.prog 52=some (.code Dh):=by kernel_rfl
noncomputable def xn:NC:=(((regD [m e.f.a e.a.c 0,m e.f.b e.b 1,O e.f.c (.bin .num .lss (t e.f.a) (t e.f.b)) 3 2,O e.f.f (.move (t e.f.c)) 7 3,⟨some e.a.a.a,.move (t e),some (e.f.f,true),15,4⟩,⟨some e.a.a.b,.move (t e.a.c),some (e.f.f,true),15,5⟩,⟨some e.a.a.c,.indexSlc 1 (t e.a.a.a) (t e.a.a.b),some (e.f.f,true),63,6⟩,⟨some e.a.a.f,.load1 (t e.a.a.c),some (e.f.f,true),127,7⟩,⟨some e.a.b.a,.move (t e),some (e.f.f,true),15,8⟩,⟨some e.a.b.b,.move (t e.a.c),some (e.f.f,true),15,9⟩,⟨some e.a.b.c,.bin .num .sub (t e.a.b.b) (k 1),some (e.f.f,true),527,10⟩,⟨some e.a.b.f,.indexSlc 1 (t e.a.b.a) (t e.a.b.c),some (e.f.f,true),1807,11⟩,⟨some e.a.c.a,.load1 (t e.a.b.f),some (e.f.f,true),3855,12⟩,⟨some e.a.c.b,.call (F 54) [t e.a.a.f,t e.a.c.a],some (e.f.f,true),8191,13⟩,⟨some e.a.c.c,.un .not (t e.a.c.b),some (e.f.f,true),16383,14⟩,O e.a.c.f (.pick (t e.f.f) (t e.a.c.c) kf) 32767 15]).seq (NC.cond (t e.a.c.f) NC.skip (NC.exit 2))).seq (NC.block 3 (reg [m e.a.f.a e.a.c 0,b e.a.f.b .add (t e.a.f.a) (k 1) 1,m e.a.c e.a.f.b 2])))
noncomputable def zH:NC:=(((reg [m e.c.c.f e.b.a 0,b e.c.f.a .geq (t e.c.c.f) (k 1) 1]).seq (NC.cond (t e.c.f.a) NC.skip (NC.exit 4))).seq ((NC.block 5 (((regD [m e.c.f.f e 0,m e.f.a.a e.b.a 1,O e.f.a.b (.indexSlc 1 (t e.c.f.f) (t e.f.a.a)) 3 2,O e.f.a.c (.load1 (t e.f.a.b)) 7 3,m e.f.a.f e 4,m e.f.b.a e.b.a 5,O e.f.b.b (.bin .num .sub (t e.f.b.a) (k 1)) 32 6,O e.f.b.c (.indexSlc 1 (t e.f.a.f) (t e.f.b.b)) 112 7,O e.f.b.f (.load1 (t e.f.b.c)) 240 8,O e.f.c.a (.call (F 54) [t e.f.a.c,t e.f.b.f]) 511 9,O e.f.c.b (.un .not (t e.f.c.a)) 1023 10]).seq (NC.cond (t e.f.c.b) (NC.exit 4) NC.skip)).seq (regD [m e.f.c.c e 0,m e.f.c.f e.b.a 1,m e.f.f.a e 2,m e.f.f.b e.b.a 3,O e.f.f.c (.bin .num .sub (t e.f.f.b) (k 1)) 8 4,m e.f.f.f e 5,m e.a.a.a.a e.b.a 6,O e.a.a.a.b (.bin .num .sub (t e.a.a.a.a) (k 1)) 64 7,O e.a.a.a.c (.indexSlc 1 (t e.f.f.f) (t e.a.a.a.b)) 224 8,O e.a.a.a.f (.load1 (t e.a.a.a.c)) 480 9,m e.a.a.b.a e 10,m e.a.a.b.b e.b.a 11,O e.a.a.b.c (.indexSlc 1 (t e.a.a.b.a) (t e.a.a.b.b)) 3072 12,O e.a.a.b.f (.load1 (t e.a.a.b.c)) 7168 13,O e.a.a.c.a (.indexSlc 1 (t e.f.c.c) (t e.f.c.f)) 16355 14,⟨none,.store 1 (t e.a.a.c.a) (t e.a.a.a.f),none,32739,15⟩,O e.a.a.c.b (.indexSlc 1 (t e.f.f.a) (t e.f.f.c)) 65535 16,⟨none,.store 1 (t e.a.a.c.b) (t e.a.a.b.f),none,131071,17⟩]))).seq (reg [m e.c.f.b e.b.a 0,b e.c.f.c .sub (t e.c.f.b) (k 1) 1,m e.b.a e.c.f.c 2])))
noncomputable def zP:NC:=(((reg [m e.a.b.a.a e.b.b 0,m e.a.b.a.b e.b 1,b e.a.b.a.c .lss (t e.a.b.a.a) (t e.a.b.a.b) 2]).seq (NC.cond (t e.a.b.a.c) NC.skip (NC.exit 6))).seq ((NC.block 7 (((regD [m e.a.b.b.b e 0,m e.a.b.b.c e.b.b 1,O e.a.b.b.f (.indexSlc 1 (t e.a.b.b.b) (t e.a.b.b.c)) 3 2,O e.a.b.c.a (.load1 (t e.a.b.b.f)) 7 3,m e.a.b.c.b e 4,m e.a.b.c.c e.b.b 5,O e.a.b.c.f (.bin .num .sub (t e.a.b.c.c) (k 1)) 32 6,O e.a.b.f.a (.indexSlc 1 (t e.a.b.c.b) (t e.a.b.c.f)) 112 7,O e.a.b.f.b (.load1 (t e.a.b.f.a)) 240 8,O e.a.b.f.c (.call (F 54) [t e.a.b.c.a,t e.a.b.f.b]) 511 9,O e.a.b.f.f (.un .not (t e.a.b.f.c)) 1023 10]).seq (NC.cond (t e.a.b.f.f) (NC.exit 6) NC.skip)).seq (regD [m e.a.c.a.a e 0,m e.a.c.a.b e.b.b 1,m e.a.c.a.c e 2,m e.a.c.a.f e.b.b 3,O e.a.c.b.a (.bin .num .sub (t e.a.c.a.f) (k 1)) 8 4,m e.a.c.b.b e 5,m e.a.c.b.c e.b.b 6,O e.a.c.b.f (.bin .num .sub (t e.a.c.b.c) (k 1)) 64 7,O e.a.c.c.a (.indexSlc 1 (t e.a.c.b.b) (t e.a.c.b.f)) 224 8,O e.a.c.c.b (.load1 (t e.a.c.c.a)) 480 9,m e.a.c.c.c e 10,m e.a.c.c.f e.b.b 11,O e.a.c.f.a (.indexSlc 1 (t e.a.c.c.c) (t e.a.c.c.f)) 3072 12,O e.a.c.f.b (.load1 (t e.a.c.f.a)) 7168 13,O e.a.c.f.c (.indexSlc 1 (t e.a.c.a.a) (t e.a.c.a.b)) 16355 14,⟨none,.store 1 (t e.a.c.f.c) (t e.a.c.c.b),none,32739,15⟩,O e.a.c.f.f (.indexSlc 1 (t e.a.c.a.c) (t e.a.c.b.a)) 65535 16,⟨none,.store 1 (t e.a.c.f.f) (t e.a.c.f.b),none,131071,17⟩]))).seq (reg [m e.a.b.a.f e.b.b 0,b e.a.b.b.a .add (t e.a.b.a.f) (k 1) 1,m e.b.b e.a.b.b.a 2])))
noncomputable def xw:NC:=(((reg [m e.c.a e.a.f 0,b e.c.b .lss (t e.c.a) (k 5) 1]).seq (NC.cond (t e.c.b) NC.skip (NC.exit 0))).seq ((NC.block 1 ((NC.block 2 xn.loop).seq (((reg [m e.a.f.c e.a.c 0,m e.a.f.f e.b 1,b e.b.a.a .eql (t e.a.f.c) (t e.a.f.f) 2]).seq (NC.cond (t e.b.a.a) ((reg [o e.a.b (.move kt) 0]).seq NC.ret) NC.skip)).seq (((reg [m e.b.a.b e.b 0,m e.b.a.c e.a 1,b e.b.a.f .sub (t e.b.a.b) (t e.b.a.c) 2,b e.b.b.a .lss (t e.b.a.f) (k 50) 3]).seq (NC.cond (t e.b.b.a) ((reg [o e.a.b (.move kf) 0]).seq NC.ret) NC.skip)).seq ((regD [m e.b.b.b e 0,m e.b.b.c e.a.c 1,m e.b.b.f e 2,m e.b.c.a e.a.c 3,O e.b.c.b (.bin .num .sub (t e.b.c.a) (k 1)) 8 4,m e.b.c.c e 5,m e.b.c.f e.a.c 6,O e.b.f.a (.bin .num .sub (t e.b.c.f) (k 1)) 64 7,O e.b.f.b (.indexSlc 1 (t e.b.c.c) (t e.b.f.a)) 224 8,O e.b.f.c (.load1 (t e.b.f.b)) 480 9,m e.b.f.f e 10,m e.c.a.a e.a.c 11,O e.c.a.b (.indexSlc 1 (t e.b.f.f) (t e.c.a.a)) 3072 12,O e.c.a.c (.load1 (t e.c.a.b)) 7168 13,O e.c.a.f (.indexSlc 1 (t e.b.b.b) (t e.b.b.c)) 16355 14,⟨none,.store 1 (t e.c.a.f) (t e.b.f.c),none,32739,15⟩,O e.c.b.a (.indexSlc 1 (t e.b.b.f) (t e.b.c.b)) 65535 16,⟨none,.store 1 (t e.c.b.a) (t e.c.a.c),none,131071,17⟩]).seq (((reg [m e.c.b.b e.a.c 0,m e.c.b.c e.a 1,b e.c.b.f .sub (t e.c.b.b) (t e.c.b.c) 2,b e.c.c.a .geq (t e.c.b.f) (k 2) 3]).seq (NC.cond (t e.c.c.a) ((reg [m e.c.c.b e.a.c 0,b e.c.c.c .sub (t e.c.c.b) (k 1) 1,m e.b.a e.c.c.c 2]).seq (NC.block 4 zH.loop)) NC.skip)).seq ((reg [m e.a.a.c.c e.b 0,m e.a.a.c.f e.a.c 1,b e.a.a.f.a .sub (t e.a.a.c.c) (t e.a.a.c.f) 2,b e.a.a.f.b .geq (t e.a.a.f.a) (k 2) 3]).seq (NC.cond (t e.a.a.f.b) ((reg [m e.a.a.f.c e.a.c 0,b e.a.a.f.f .add (t e.a.a.f.c) (k 1) 1,m e.b.b e.a.a.f.f 2]).seq (NC.block 6 zP.loop)) NC.skip)))))))).seq (reg [m e.c.c e.a.f 0,b e.c.f .add (t e.c.c) (k 1) 1,m e.a.f e.c.f 2])))
noncomputable def EC:NFun:=⟨(reg [o e.a.b (.move kf) 0]).seq ((reg [m e.b.c e.a 0,b e.b.f .add (t e.b.c) (k 1) 1,m e.a.c e.b.f 2]).seq (((reg [o e.a.f (.move (k 0)) 0]).seq (NC.block 0 xw.loop)).seq ((reg [o e.a.b (.move kf) 0]).seq NC.ret))),133, [.tmp e.a.b]⟩
theorem yI:an Try.prog 53=some (.code EC):=by kernel_rfl
noncomputable def Ds:NFun:=⟨(reg [o e.f (.move kf) 0]).seq ((reg [m e.a.a e 0,o e.a.b (.call (F 26) [t e.a.a]) 1,m e.a.c e.a.b 2,G e.a.f (.move (t e.a)) e.a.c true 3,G e.b.a (.call (F 26) [t e.a.f]) e.a.c true 4,G e.b.b (.un .not (t e.b.a)) e.a.c true 5,o e.b.c (.pick (t e.a.c) (t e.b.b) kf) 6,m e.b.f e.b.c 7,G e.c.a (.move (t e)) e.b.f false 8,G e.c.b (.move (t e.a)) e.b.f false 9,G e.c.c (.bin .num .lss (t e.c.a) (t e.c.b)) e.b.f false 10,o e.c.f (.pick (t e.b.f) kt (t e.c.c)) 11,m e.f e.c.f 12]).seq NC.ret),17, [.tmp e.f]⟩
theorem xi:an Try.prog 54=some (.code Ds):=by kernel_rfl
noncomputable def yP:NC:=(((regD [m e.b.c.b e.b.a 0,m e.b.c.c e.b.b 1,O e.b.c.f (.bin .num .leq (t e.b.c.b) (t e.b.c.c)) 3 2,O e.b.f.a (.move (t e.b.c.f)) 7 3,⟨some e.b.f.b,.move (t e),some (e.b.f.a,true),15,4⟩,⟨some e.b.f.c,.move (t e.a),some (e.b.f.a,true),15,5⟩,⟨some e.b.f.f,.indexSlc 1 (t e.b.f.b) (t e.b.f.c),some (e.b.f.a,true),63,6⟩,⟨some e.c.a.a,.load1 (t e.b.f.f),some (e.b.f.a,true),127,7⟩,⟨some e.c.a.b,.move (t e),some (e.b.f.a,true),15,8⟩,⟨some e.c.a.c,.move (t e.b.b),some (e.b.f.a,true),15,9⟩,⟨some e.c.a.f,.indexSlc 1 (t e.c.a.b) (t e.c.a.c),some (e.b.f.a,true),783,10⟩,⟨some e.c.b.a,.load1 (t e.c.a.f),some (e.b.f.a,true),1807,11⟩,⟨some e.c.b.b,.call (F 54) [t e.c.a.a,t e.c.b.a],some (e.b.f.a,true),4095,12⟩,O e.c.b.c (.pick (t e.b.f.a) (t e.c.b.b) kf) 8191 13]).seq (NC.cond (t e.c.b.c) NC.skip (NC.exit 4))).seq (NC.block 5 (reg [m e.c.b.f e.b.b 0,b e.c.c.a .sub (t e.c.b.f) (k 1) 1,m e.b.b e.c.c.a 2])))
noncomputable def zJ:NC:=(((regD [m e.a.c.a e.b.a 0,m e.a.c.b e.b.b 1,O e.a.c.c (.bin .num .leq (t e.a.c.a) (t e.a.c.b)) 3 2,O e.a.c.f (.move (t e.a.c.c)) 7 3,⟨some e.a.f.a,.move (t e),some (e.a.c.f,true),15,4⟩,⟨some e.a.f.b,.move (t e.a),some (e.a.c.f,true),15,5⟩,⟨some e.a.f.c,.indexSlc 1 (t e.a.f.a) (t e.a.f.b),some (e.a.c.f,true),63,6⟩,⟨some e.a.f.f,.load1 (t e.a.f.c),some (e.a.c.f,true),127,7⟩,⟨some e.b.a.a,.move (t e),some (e.a.c.f,true),15,8⟩,⟨some e.b.a.b,.move (t e.b.a),some (e.a.c.f,true),15,9⟩,⟨some e.b.a.c,.indexSlc 1 (t e.b.a.a) (t e.b.a.b),some (e.a.c.f,true),783,10⟩,⟨some e.b.a.f,.load1 (t e.b.a.c),some (e.a.c.f,true),1807,11⟩,⟨some e.b.b.a,.call (F 54) [t e.a.f.f,t e.b.a.f],some (e.a.c.f,true),4095,12⟩,⟨some e.b.b.b,.un .not (t e.b.b.a),some (e.a.c.f,true),8191,13⟩,O e.b.b.c (.pick (t e.a.c.f) (t e.b.b.b) kf) 16383 14]).seq (NC.cond (t e.b.b.c) NC.skip (NC.exit 2))).seq (NC.block 3 (reg [m e.b.b.f e.b.a 0,b e.b.c.a .add (t e.b.b.f) (k 1) 1,m e.b.a e.b.c.a 2])))
noncomputable def zt:NC:=(NC.block 1 ((NC.block 2 zJ.loop).seq ((NC.block 4 yP.loop).seq (((reg [m e.c.c.b e.b.a 0,m e.c.c.c e.b.b 1,b e.c.c.f .gtr (t e.c.c.b) (t e.c.c.c) 2]).seq (NC.cond (t e.c.c.f) (NC.exit 0) NC.skip)).seq ((regD [m e.c.f.a e 0,m e.c.f.b e.b.a 1,m e.c.f.c e 2,m e.c.f.f e.b.b 3,m e.f.a.a e 4,m e.f.a.b e.b.b 5,O e.f.a.c (.indexSlc 1 (t e.f.a.a) (t e.f.a.b)) 48 6,O e.f.a.f (.load1 (t e.f.a.c)) 112 7,m e.f.b.a e 8,m e.f.b.b e.b.a 9,O e.f.b.c (.indexSlc 1 (t e.f.b.a) (t e.f.b.b)) 768 10,O e.f.b.f (.load1 (t e.f.b.c)) 1792 11,O e.f.c.a (.indexSlc 1 (t e.c.f.a) (t e.c.f.b)) 4083 12,⟨none,.store 1 (t e.f.c.a) (t e.f.a.f),none,8179,13⟩,O e.f.c.b (.indexSlc 1 (t e.c.f.c) (t e.c.f.f)) 16383 14,⟨none,.store 1 (t e.f.c.b) (t e.f.b.f),none,32767,15⟩]).seq ((reg [m e.f.c.c e.b.a 0,b e.f.c.f .add (t e.f.c.c) (k 1) 1,m e.b.a e.f.c.f 2]).seq (reg [m e.f.f.a e.b.b 0,b e.f.f.b .sub (t e.f.f.a) (k 1) 1,m e.b.b e.f.f.b 2])))))))
noncomputable def CM:NFun:=⟨(reg [o e.a.f (.move (k 0)) 0]).seq ((regD [m e.b.c e 0,m e.b.f e.a 1,m e.c.a e 2,m e.c.b e.c 3,m e.c.c e 4,m e.c.f e.c 5,O e.f.a (.indexSlc 1 (t e.c.c) (t e.c.f)) 48 6,O e.f.b (.load1 (t e.f.a)) 112 7,m e.f.c e 8,m e.f.f e.a 9,O e.a.a.a (.indexSlc 1 (t e.f.c) (t e.f.f)) 768 10,O e.a.a.b (.load1 (t e.a.a.a)) 1792 11,O e.a.a.c (.indexSlc 1 (t e.b.c) (t e.b.f)) 4083 12,⟨none,.store 1 (t e.a.a.c) (t e.f.b),none,8179,13⟩,O e.a.a.f (.indexSlc 1 (t e.c.a) (t e.c.b)) 16383 14,⟨none,.store 1 (t e.a.a.f) (t e.a.a.b),none,32767,15⟩]).seq ((reg [m e.a.b.a e.a 0,b e.a.b.b .add (t e.a.b.a) (k 1) 1,m e.a.b.c e.b 2,b e.a.b.f .sub (t e.a.b.c) (k 1) 3,m e.b.a e.a.b.b 4,m e.b.b e.a.b.f 5]).seq ((NC.block 0 zt.loop).seq ((reg [m e.f.f.c e.b.a 0,m e.a.f e.f.f.c 1]).seq NC.ret)))),84, [.tmp e.a.f]⟩
theorem zG:an Try.prog 55=some (.code CM):=by kernel_rfl
noncomputable def y7:NC:=(((regD [m e.a.c.b e.b.b 0,m e.a.c.c e.b.c 1,O e.a.c.f (.bin .num .leq (t e.a.c.b) (t e.a.c.c)) 3 2,O e.a.f.a (.move (t e.a.c.f)) 7 3,⟨some e.a.f.b,.move (t e),some (e.a.f.a,true),15,4⟩,⟨some e.a.f.c,.move (t e.b.b),some (e.a.f.a,true),15,5⟩,⟨some e.a.f.f,.indexSlc 1 (t e.a.f.b) (t e.a.f.c),some (e.a.f.a,true),63,6⟩,⟨some e.b.a.a,.load1 (t e.a.f.f),some (e.a.f.a,true),127,7⟩,⟨some e.b.a.b,.move (t e),some (e.a.f.a,true),15,8⟩,⟨some e.b.a.c,.move (t e.a),some (e.a.f.a,true),15,9⟩,⟨some e.b.a.f,.indexSlc 1 (t e.b.a.b) (t e.b.a.c),some (e.a.f.a,true),783,10⟩,⟨some e.b.b.a,.load1 (t e.b.a.f),some (e.a.f.a,true),1807,11⟩,⟨some e.b.b.b,.call (F 54) [t e.b.a.a,t e.b.b.a],some (e.a.f.a,true),4095,12⟩,O e.b.b.c (.pick (t e.a.f.a) (t e.b.b.b) kf) 8191 13]).seq (NC.cond (t e.b.b.c) NC.skip (NC.exit 0))).seq (NC.block 1 (reg [m e.b.b.f e.b.b 0,b e.b.c.a .add (t e.b.b.f) (k 1) 1,m e.b.b e.b.c.a 2])))
noncomputable def Ah:NC:=(((regD [m e.a.a.f.c e.b.b 0,m e.a.a.f.f e.b.c 1,O e.a.b.a.a (.bin .num .leq (t e.a.a.f.c) (t e.a.a.f.f)) 3 2,O e.a.b.a.b (.move (t e.a.b.a.a)) 7 3,⟨some e.a.b.a.c,.move (t e),some (e.a.b.a.b,true),15,4⟩,⟨some e.a.b.a.f,.move (t e.b.b),some (e.a.b.a.b,true),15,5⟩,⟨some e.a.b.b.a,.indexSlc 1 (t e.a.b.a.c) (t e.a.b.a.f),some (e.a.b.a.b,true),63,6⟩,⟨some e.a.b.b.b,.load1 (t e.a.b.b.a),some (e.a.b.a.b,true),127,7⟩,⟨some e.a.b.b.c,.move (t e),some (e.a.b.a.b,true),15,8⟩,⟨some e.a.b.b.f,.move (t e.a),some (e.a.b.a.b,true),15,9⟩,⟨some e.a.b.c.a,.indexSlc 1 (t e.a.b.b.c) (t e.a.b.b.f),some (e.a.b.a.b,true),783,10⟩,⟨some e.a.b.c.b,.load1 (t e.a.b.c.a),some (e.a.b.a.b,true),1807,11⟩,⟨some e.a.b.c.c,.call (F 54) [t e.a.b.b.b,t e.a.b.c.b],some (e.a.b.a.b,true),4095,12⟩,O e.a.b.c.f (.pick (t e.a.b.a.b) (t e.a.b.c.c) kf) 8191 13]).seq (NC.cond (t e.a.b.c.f) NC.skip (NC.exit 6))).seq (NC.block 7 (reg [m e.a.b.f.a e.b.b 0,b e.a.b.f.b .add (t e.a.b.f.a) (k 1) 1,m e.b.b e.a.b.f.b 2])))
noncomputable def zC:NC:=(((regD [m e.b.c.b e.b.b 0,m e.b.c.c e.b.c 1,O e.b.c.f (.bin .num .leq (t e.b.c.b) (t e.b.c.c)) 3 2,O e.b.f.a (.move (t e.b.c.f)) 7 3,⟨some e.b.f.b,.move (t e),some (e.b.f.a,true),15,4⟩,⟨some e.b.f.c,.move (t e.b.c),some (e.b.f.a,true),15,5⟩,⟨some e.b.f.f,.indexSlc 1 (t e.b.f.b) (t e.b.f.c),some (e.b.f.a,true),63,6⟩,⟨some e.c.a.a,.load1 (t e.b.f.f),some (e.b.f.a,true),127,7⟩,⟨some e.c.a.b,.move (t e),some (e.b.f.a,true),15,8⟩,⟨some e.c.a.c,.move (t e.a),some (e.b.f.a,true),15,9⟩,⟨some e.c.a.f,.indexSlc 1 (t e.c.a.b) (t e.c.a.c),some (e.b.f.a,true),783,10⟩,⟨some e.c.b.a,.load1 (t e.c.a.f),some (e.b.f.a,true),1807,11⟩,⟨some e.c.b.b,.call (F 54) [t e.c.a.a,t e.c.b.a],some (e.b.f.a,true),4095,12⟩,⟨some e.c.b.c,.un .not (t e.c.b.b),some (e.b.f.a,true),8191,13⟩,O e.c.b.f (.pick (t e.b.f.a) (t e.c.b.c) kf) 16383 14]).seq (NC.cond (t e.c.b.f) NC.skip (NC.exit 2))).seq (NC.block 3 (reg [m e.c.c.a e.b.c 0,b e.c.c.b .sub (t e.c.c.a) (k 1) 1,m e.b.c e.c.c.b 2])))
noncomputable def zU:NC:=(((regD [m e.a.b.f.c e.b.b 0,m e.a.b.f.f e.b.c 1,O e.a.c.a.a (.bin .num .leq (t e.a.b.f.c) (t e.a.b.f.f)) 3 2,O e.a.c.a.b (.move (t e.a.c.a.a)) 7 3,⟨some e.a.c.a.c,.move (t e),some (e.a.c.a.b,true),15,4⟩,⟨some e.a.c.a.f,.move (t e.b.c),some (e.a.c.a.b,true),15,5⟩,⟨some e.a.c.b.a,.indexSlc 1 (t e.a.c.a.c) (t e.a.c.a.f),some (e.a.c.a.b,true),63,6⟩,⟨some e.a.c.b.b,.load1 (t e.a.c.b.a),some (e.a.c.a.b,true),127,7⟩,⟨some e.a.c.b.c,.move (t e),some (e.a.c.a.b,true),15,8⟩,⟨some e.a.c.b.f,.move (t e.a),some (e.a.c.a.b,true),15,9⟩,⟨some e.a.c.c.a,.indexSlc 1 (t e.a.c.b.c) (t e.a.c.b.f),some (e.a.c.a.b,true),783,10⟩,⟨some e.a.c.c.b,.load1 (t e.a.c.c.a),some (e.a.c.a.b,true),1807,11⟩,⟨some e.a.c.c.c,.call (F 54) [t e.a.c.b.b,t e.a.c.c.b],some (e.a.c.a.b,true),4095,12⟩,⟨some e.a.c.c.f,.un .not (t e.a.c.c.c),some (e.a.c.a.b,true),8191,13⟩,O e.a.c.f.a (.pick (t e.a.c.a.b) (t e.a.c.c.f) kf) 16383 14]).seq (NC.cond (t e.a.c.f.a) NC.skip (NC.exit 8))).seq (NC.block 9 (reg [m e.a.c.f.b e.b.c 0,b e.a.c.f.c .sub (t e.a.c.f.b) (k 1) 1,m e.b.c e.a.c.f.c 2])))
noncomputable def xd:NC:=(NC.block 5 ((NC.block 6 Ah.loop).seq ((NC.block 8 zU.loop).seq (((reg [m e.a.c.f.f e.b.b 0,m e.a.f.a.a e.b.c 1,b e.a.f.a.b .gtr (t e.a.c.f.f) (t e.a.f.a.a) 2]).seq (NC.cond (t e.a.f.a.b) (NC.exit 4) NC.skip)).seq ((regD [m e.a.f.a.c e 0,m e.a.f.a.f e.b.b 1,m e.a.f.b.a e 2,m e.a.f.b.b e.b.c 3,m e.a.f.b.c e 4,m e.a.f.b.f e.b.c 5,O e.a.f.c.a (.indexSlc 1 (t e.a.f.b.c) (t e.a.f.b.f)) 48 6,O e.a.f.c.b (.load1 (t e.a.f.c.a)) 112 7,m e.a.f.c.c e 8,m e.a.f.c.f e.b.b 9,O e.a.f.f.a (.indexSlc 1 (t e.a.f.c.c) (t e.a.f.c.f)) 768 10,O e.a.f.f.b (.load1 (t e.a.f.f.a)) 1792 11,O e.a.f.f.c (.indexSlc 1 (t e.a.f.a.c) (t e.a.f.a.f)) 4083 12,⟨none,.store 1 (t e.a.f.f.c) (t e.a.f.c.b),none,8179,13⟩,O e.a.f.f.f (.indexSlc 1 (t e.a.f.b.a) (t e.a.f.b.b)) 16383 14,⟨none,.store 1 (t e.a.f.f.f) (t e.a.f.f.b),none,32767,15⟩]).seq ((reg [m e.b.a.a.a e.b.b 0,b e.b.a.a.b .add (t e.b.a.a.a) (k 1) 1,m e.b.b e.b.a.a.b 2]).seq (reg [m e.b.a.a.c e.b.c 0,b e.b.a.a.f .sub (t e.b.a.a.c) (k 1) 1,m e.b.c e.b.a.a.f 2])))))))
noncomputable def Dz:NFun:=⟨(reg [o e.a.f (.move (k 0)) 0,o e.b.a (.move kf) 1]).seq ((regD [m e.b.f e 0,m e.c.a e.a 1,m e.c.b e 2,m e.c.c e.c 3,m e.c.f e 4,m e.f.a e.c 5,O e.f.b (.indexSlc 1 (t e.c.f) (t e.f.a)) 48 6,O e.f.c (.load1 (t e.f.b)) 112 7,m e.f.f e 8,m e.a.a.a e.a 9,O e.a.a.b (.indexSlc 1 (t e.f.f) (t e.a.a.a)) 768 10,O e.a.a.c (.load1 (t e.a.a.b)) 1792 11,O e.a.a.f (.indexSlc 1 (t e.b.f) (t e.c.a)) 4083 12,⟨none,.store 1 (t e.a.a.f) (t e.f.c),none,8179,13⟩,O e.a.b.a (.indexSlc 1 (t e.c.b) (t e.c.c)) 16383 14,⟨none,.store 1 (t e.a.b.a) (t e.a.a.c),none,32767,15⟩]).seq ((reg [m e.a.b.b e.a 0,b e.a.b.c .add (t e.a.b.b) (k 1) 1,m e.a.b.f e.b 2,b e.a.c.a .sub (t e.a.b.f) (k 1) 3,m e.b.b e.a.b.c 4,m e.b.c e.a.c.a 5]).seq ((NC.block 0 y7.loop).seq ((NC.block 2 zC.loop).seq (((reg [m e.c.c.c e.b.b 0,m e.c.c.f e.b.c 1,b e.c.f.a .gtr (t e.c.c.c) (t e.c.c.f) 2]).seq (NC.cond (t e.c.f.a) ((regD [m e.c.f.b e 0,m e.c.f.c e.b.c 1,m e.c.f.f e 2,m e.f.a.a e.a 3,m e.f.a.b e 4,m e.f.a.c e.a 5,O e.f.a.f (.indexSlc 1 (t e.f.a.b) (t e.f.a.c)) 48 6,O e.f.b.a (.load1 (t e.f.a.f)) 112 7,m e.f.b.b e 8,m e.f.b.c e.b.c 9,O e.f.b.f (.indexSlc 1 (t e.f.b.b) (t e.f.b.c)) 768 10,O e.f.c.a (.load1 (t e.f.b.f)) 1792 11,O e.f.c.b (.indexSlc 1 (t e.c.f.b) (t e.c.f.c)) 4083 12,⟨none,.store 1 (t e.f.c.b) (t e.f.b.a),none,8179,13⟩,O e.f.c.c (.indexSlc 1 (t e.c.f.f) (t e.f.a.a)) 16383 14,⟨none,.store 1 (t e.f.c.c) (t e.f.c.a),none,32767,15⟩]).seq ((reg [m e.f.c.f e.b.c 0,m e.a.f e.f.c.f 1,o e.b.a (.move kt) 2]).seq NC.ret)) NC.skip)).seq ((regD [m e.f.f.a e 0,m e.f.f.b e.b.b 1,m e.f.f.c e 2,m e.f.f.f e.b.c 3,m e.a.a.a.a e 4,m e.a.a.a.b e.b.c 5,O e.a.a.a.c (.indexSlc 1 (t e.a.a.a.a) (t e.a.a.a.b)) 48 6,O e.a.a.a.f (.load1 (t e.a.a.a.c)) 112 7,m e.a.a.b.a e 8,m e.a.a.b.b e.b.b 9,O e.a.a.b.c (.indexSlc 1 (t e.a.a.b.a) (t e.a.a.b.b)) 768 10,O e.a.a.b.f (.load1 (t e.a.a.b.c)) 1792 11,O e.a.a.c.a (.indexSlc 1 (t e.f.f.a) (t e.f.f.b)) 4083 12,⟨none,.store 1 (t e.a.a.c.a) (t e.a.a.a.f),none,8179,13⟩,O e.a.a.c.b (.indexSlc 1 (t e.f.f.c) (t e.f.f.f)) 16383 14,⟨none,.store 1 (t e.a.a.c.b) (t e.a.a.b.f),none,32767,15⟩]).seq ((reg [m e.a.a.c.c e.b.b 0,b e.a.a.c.f .add (t e.a.a.c.c) (k 1) 1,m e.b.b e.a.a.c.f 2]).seq ((reg [m e.a.a.f.a e.b.c 0,b e.a.a.f.b .sub (t e.a.a.f.a) (k 1) 1,m e.b.c e.a.a.f.b 2]).seq ((NC.block 4 xd.loop).seq ((regD [m e.b.a.b.a e 0,m e.b.a.b.b e.b.c 1,m e.b.a.b.c e 2,m e.b.a.b.f e.a 3,m e.b.a.c.a e 4,m e.b.a.c.b e.a 5,O e.b.a.c.c (.indexSlc 1 (t e.b.a.c.a) (t e.b.a.c.b)) 48 6,O e.b.a.c.f (.load1 (t e.b.a.c.c)) 112 7,m e.b.a.f.a e 8,m e.b.a.f.b e.b.c 9,O e.b.a.f.c (.indexSlc 1 (t e.b.a.f.a) (t e.b.a.f.b)) 768 10,O e.b.a.f.f (.load1 (t e.b.a.f.c)) 1792 11,O e.b.b.a.a (.indexSlc 1 (t e.b.a.b.a) (t e.b.a.b.b)) 4083 12,⟨none,.store 1 (t e.b.b.a.a) (t e.b.a.c.f),none,8179,13⟩,O e.b.b.a.b (.indexSlc 1 (t e.b.a.b.c) (t e.b.a.b.f)) 16383 14,⟨none,.store 1 (t e.b.b.a.b) (t e.b.a.f.f),none,32767,15⟩]).seq ((reg [m e.b.b.a.c e.b.c 0,m e.a.f e.b.b.a.c 1,o e.b.a (.move kf) 2]).seq NC.ret))))))))))),168, [.tmp e.a.f,.tmp e.b.a]⟩
theorem zB:an Try.prog 56=some (.code Dz):=by kernel_rfl
noncomputable def Dd:NFun:=⟨(reg [o e.b.b (.move (k 0)) 0,o e.b.c (.move (k 0)) 1]).seq (((regD [m e.b.f e.f 0,m e.c.a e 1,m e.c.b e.b 2,O e.c.c (.indexSlc 2 (t e.c.a) (t e.c.b)) 6 3,O e.c.f (.loadN 2 (t e.c.c)) 14 4,m e.f.a e 5,m e.f.b e.a 6,O e.f.c (.indexSlc 2 (t e.f.a) (t e.f.b)) 96 7,O e.f.f (.loadN 2 (t e.f.c)) 224 8,O e.a.a.a (.call (t e.b.f) [t e.c.f,t e.f.f]) 511 9,O e.a.a.b (.bin .num .lss (t e.a.a.a) (k 0)) 1023 10]).seq (NC.cond (t e.a.a.b) ((reg [m e.a.a.c e.c 0,n e.a.a.f e.a.a.c 1,l e.a.b.a e.a.a.f 2,b e.a.b.b .add (t e.a.b.a) (k 1) 3,n e.a.b.c e.a.a.c 4,q (.store 1 (t e.a.b.c) (t e.a.b.b)) 5]).seq ((reg [m e.a.b.f e.b 0,m e.a.c.a e.a 1,m e.b.b e.a.b.f 2,m e.b.c e.a.c.a 3]).seq NC.ret)) NC.skip)).seq ((reg [m e.a.c.b e.a 0,m e.a.c.c e.b 1,m e.b.b e.a.c.b 2,m e.b.c e.a.c.c 3]).seq NC.ret)),32, [.tmp e.b.b,.tmp e.b.c]⟩
theorem yW:an Try.prog 57=some (.code Dd):=by kernel_rfl
noncomputable def xf:NC:=(NC.block 1 ((reg [m e.b.c e.a.f 0,b e.b.f .mul (k 2) (t e.b.c) 1,b e.c.a .add (t e.b.f) (k 1) 2,m e.b.a e.c.a 3]).seq (((reg [m e.c.b e.b.a 0,m e.c.c e.b 1,b e.c.f .geq (t e.c.b) (t e.c.c) 2]).seq (NC.cond (t e.c.f) (NC.exit 0) NC.skip)).seq (((regD [m e.f.a e.b.a 0,O e.f.b (.bin .num .add (t e.f.a) (k 1)) 1 1,m e.f.c e.b 2,O e.f.f (.bin .num .lss (t e.f.b) (t e.f.c)) 7 3,O e.a.a.a (.move (t e.f.f)) 15 4,⟨some e.a.a.b,.move (t e),some (e.a.a.a,true),31,5⟩,⟨some e.a.a.c,.move (t e.c),some (e.a.a.a,true),31,6⟩,⟨some e.a.a.f,.move (t e.b.a),some (e.a.a.a,true),31,7⟩,⟨some e.a.b.a,.bin .num .add (t e.a.a.c) (t e.a.a.f),some (e.a.a.a,true),223,8⟩,⟨some e.a.b.b,.indexSlc 1 (t e.a.a.b) (t e.a.b.a),some (e.a.a.a,true),511,9⟩,⟨some e.a.b.c,.load1 (t e.a.b.b),some (e.a.a.a,true),1023,10⟩,⟨some e.a.b.f,.move (t e),some (e.a.a.a,true),31,11⟩,⟨some e.a.c.a,.move (t e.c),some (e.a.a.a,true),31,12⟩,⟨some e.a.c.b,.move (t e.b.a),some (e.a.a.a,true),31,13⟩,⟨some e.a.c.c,.bin .num .add (t e.a.c.a) (t e.a.c.b),some (e.a.a.a,true),12319,14⟩,⟨some e.a.c.f,.bin .num .add (t e.a.c.c) (k 1),some (e.a.a.a,true),28703,15⟩,⟨some e.a.f.a,.indexSlc 1 (t e.a.b.f) (t e.a.c.f),some (e.a.a.a,true),63519,16⟩,⟨some e.a.f.b,.load1 (t e.a.f.a),some (e.a.a.a,true),129055,17⟩,⟨some e.a.f.c,.call (F 54) [t e.a.b.c,t e.a.f.b],some (e.a.a.a,true),262143,18⟩,O e.a.f.f (.pick (t e.a.a.a) (t e.a.f.c) kf) 524287 19]).seq (NC.cond (t e.a.f.f) (reg [m e.b.a.a e.b.a 0,b e.b.a.b .add (t e.b.a.a) (k 1) 1,m e.b.a e.b.a.b 2]) NC.skip)).seq (((regD [m e.b.a.c e 0,m e.b.a.f e.c 1,m e.b.b.a e.a.f 2,O e.b.b.b (.bin .num .add (t e.b.a.f) (t e.b.b.a)) 6 3,O e.b.b.c (.indexSlc 1 (t e.b.a.c) (t e.b.b.b)) 15 4,O e.b.b.f (.load1 (t e.b.b.c)) 31 5,m e.b.c.a e 6,m e.b.c.b e.c 7,m e.b.c.c e.b.a 8,O e.b.c.f (.bin .num .add (t e.b.c.b) (t e.b.c.c)) 384 9,O e.b.f.a (.indexSlc 1 (t e.b.c.a) (t e.b.c.f)) 960 10,O e.b.f.b (.load1 (t e.b.f.a)) 1984 11,O e.b.f.c (.call (F 54) [t e.b.b.f,t e.b.f.b]) 4095 12,O e.b.f.f (.un .not (t e.b.f.c)) 8191 13]).seq (NC.cond (t e.b.f.f) NC.ret NC.skip)).seq ((regD [m e.c.a.a e 0,m e.c.a.b e.c 1,m e.c.a.c e.a.f 2,O e.c.a.f (.bin .num .add (t e.c.a.b) (t e.c.a.c)) 6 3,m e.c.b.a e 4,m e.c.b.b e.c 5,m e.c.b.c e.b.a 6,O e.c.b.f (.bin .num .add (t e.c.b.b) (t e.c.b.c)) 96 7,m e.c.c.a e 8,m e.c.c.b e.c 9,m e.c.c.c e.b.a 10,O e.c.c.f (.bin .num .add (t e.c.c.b) (t e.c.c.c)) 1536 11,O e.c.f.a (.indexSlc 1 (t e.c.c.a) (t e.c.c.f)) 3840 12,O e.c.f.b (.load1 (t e.c.f.a)) 7936 13,m e.c.f.c e 14,m e.c.f.f e.c 15,m e.f.a.a e.a.f 16,O e.f.a.b (.bin .num .add (t e.c.f.f) (t e.f.a.a)) 98304 17,O e.f.a.c (.indexSlc 1 (t e.c.f.c) (t e.f.a.b)) 245760 18,O e.f.a.f (.load1 (t e.f.a.c)) 507904 19,O e.f.b.a (.indexSlc 1 (t e.c.a.a) (t e.c.a.f)) 1048335 20,⟨none,.store 1 (t e.f.b.a) (t e.c.f.b),none,2096911,21⟩,O e.f.b.b (.indexSlc 1 (t e.c.b.a) (t e.c.b.f)) 4194303 22,⟨none,.store 1 (t e.f.b.b) (t e.f.a.f),none,8388607,23⟩]).seq (reg [m e.f.b.c e.b.a 0,m e.a.f e.f.b.c 1])))))))
noncomputable def Cz:NFun:=⟨(reg [m e.b.b e.a 0,m e.a.f e.b.b 1]).seq (NC.block 0 xf.loop),76, []⟩
theorem yq:an Try.prog 58=some (.code Cz):=by kernel_rfl
noncomputable def C2:NFun:=⟨(reg [o e.a.b (.move (k 0)) 0]).seq ((reg [m e.a.c e 0,m e.a.f e.a 1,b e.b.a .sub (t e.a.f) (k 1) 2,m e.b.b e.a 3,m e.b.c e.a 4,b e.b.f .add (t e.b.c) (k 1) 5,m e.c.a e.b 6,o e.c.b (.call (F 60) [t e.a.c,t e.b.a,t e.b.b,t e.b.f,t e.c.a]) 7,m e.a.b e.c.b 8]).seq NC.ret),15, [.tmp e.a.b]⟩
theorem ye:an Try.prog 59=some (.code C2):=by kernel_rfl
noncomputable def C7:NFun:=⟨(reg [o e.b.b (.move (k 0)) 0]).seq ((reg [m e.b.f e 0,m e.c.a e.a 1,m e.c.b e.b 2,m e.c.c e.f 3,o e.c.f (.call (F 61) [t e.b.f,t e.c.a,t e.c.b,t e.c.c]) 4,m e.b.c e.c.f 5,x e.f.a e.b.c 0 6,x e.f.b e.b.c 1 7,m e.a e.f.a 8,m e.b e.f.b 9]).seq ((reg [m e.f.f e 0,m e.a.a.a e.b 1,m e.a.a.b e.c 2,m e.a.a.c e.f 3,o e.a.a.f (.call (F 61) [t e.f.f,t e.a.a.a,t e.a.a.b,t e.a.a.c]) 4,m e.f.c e.a.a.f 5,x e.a.b.a e.f.c 0 6,x e.a.b.b e.f.c 1 7,m e.b e.a.b.a 8,m e.c e.a.b.b 9]).seq ((reg [m e.a.b.f e 0,m e.a.c.a e.a 1,m e.a.c.b e.b 2,m e.a.c.c e.f 3,o e.a.c.f (.call (F 61) [t e.a.b.f,t e.a.c.a,t e.a.c.b,t e.a.c.c]) 4,m e.a.b.c e.a.c.f 5,x e.a.f.a e.a.b.c 0 6,x e.a.f.b e.a.b.c 1 7,m e.a e.a.f.a 8,m e.b e.a.f.b 9]).seq ((reg [m e.a.f.c e.b 0,m e.b.b e.a.f.c 1]).seq NC.ret)))),36, [.tmp e.b.b]⟩
theorem yi:an Try.prog 60=some (.code C7):=by kernel_rfl
noncomputable def Cx:NFun:=⟨(reg [o e.a.f (.move (k 0)) 0,o e.b.a (.move (k 0)) 1]).seq (((regD [m e.b.b e 0,m e.b.c e.b 1,O e.b.f (.indexSlc 1 (t e.b.b) (t e.b.c)) 3 2,O e.c.a (.load1 (t e.b.f)) 7 3,m e.c.b e 4,m e.c.c e.a 5,O e.c.f (.indexSlc 1 (t e.c.b) (t e.c.c)) 48 6,O e.f.a (.load1 (t e.c.f)) 112 7,O e.f.b (.call (F 54) [t e.c.a,t e.f.a]) 255 8]).seq (NC.cond (t e.f.b) ((reg [m e.f.c e.c 0,n e.f.f e.f.c 1,l e.a.a.a e.f.f 2,b e.a.a.b .add (t e.a.a.a) (k 1) 3,n e.a.a.c e.f.c 4,q (.store 1 (t e.a.a.c) (t e.a.a.b)) 5]).seq ((reg [m e.a.a.f e.b 0,m e.a.b.a e.a 1,m e.a.f e.a.a.f 2,m e.b.a e.a.b.a 3]).seq NC.ret)) NC.skip)).seq ((reg [m e.a.b.b e.a 0,m e.a.b.c e.b 1,m e.a.f e.a.b.b 2,m e.b.a e.a.b.c 3]).seq NC.ret)),28, [.tmp e.a.f,.tmp e.b.a]⟩
theorem Ae:an Try.prog 61=some (.code Cx):=by kernel_rfl
end OD
namespace OD
open Go Nm Go.Proofs
open Nm.D4 (e)
open Nm.NC (reg regD)
open Nm.C
noncomputable def code:Nat->Option NFn:=(aG 31 (aG 16 (aG 9 (aG 5 (aG 3 (aF Try.prog 3 F6) (aG 4 (aF Try.prog 4 F1) (aF Try.prog 5 FK))) (aG 7 (aG 6 (aF Try.prog 6 F5) (aF Try.prog 7 FP)) (aG 8 (aF Try.prog 8 Fv) (aF Try.prog 9 FH)))) (aG 12 (aG 10 (aF Try.prog 10 Bp) (aG 11 (aF Try.prog 11 BO) (aF Try.prog 12 AE))) (aG 14 (aG 13 (aF Try.prog 13 Cb) (aF Try.prog 14 Bc)) (aG 15 (aF Try.prog 15 BG) (aF Try.prog 16 Ea))))) (aG 23 (aG 19 (aG 17 (aF Try.prog 17 Cu) (aG 18 (aF Try.prog 18 Do) (aF Try.prog 19 Cg))) (aG 21 (aG 20 (aF Try.prog 20 Bw) (aF Try.prog 21 Cy)) (aG 22 (aF Try.prog 22 Eh) (aF Try.prog 23 B2)))) (aG 27 (aG 25 (aG 24 (aF Try.prog 24 DP) (aF Try.prog 25 Er)) (aG 26 (aF Try.prog 26 DB) (aF Try.prog 27 AZ))) (aG 29 (aG 28 (aF Try.prog 28 D0) (aF Try.prog 29 Cp)) (aG 30 (aF Try.prog 30 CG) (aF Try.prog 31 C9)))))) (aG 46 (aG 38 (aG 34 (aG 32 (aF Try.prog 32 Dx) (aG 33 (aF Try.prog 33 De) (aF Try.prog 34 Dc))) (aG 36 (aG 35 (aF Try.prog 35 Di) (aF Try.prog 36 Dp)) (aG 37 (aF Try.prog 37 CK) (aF Try.prog 38 Ex)))) (aG 42 (aG 40 (aG 39 (aF Try.prog 39 EA) (aF Try.prog 40 Eo)) (aG 41 (aF Try.prog 41 CT) (aF Try.prog 42 Dt))) (aG 44 (aG 43 (aF Try.prog 43 CU) (aF Try.prog 44 DW)) (aG 45 (aF Try.prog 45 DO) (aF Try.prog 46 EE))))) (aG 53 (aG 49 (aG 47 (aF Try.prog 47 Dg) (aG 48 (aF Try.prog 48 DD) (aF Try.prog 49 CL))) (aG 51 (aG 50 (aF Try.prog 50 Ee) (aF Try.prog 51 Dl)) (aG 52 (aF Try.prog 52 Dh) (aF Try.prog 53 EC)))) (aG 57 (aG 55 (aG 54 (aF Try.prog 54 Ds) (aF Try.prog 55 CM)) (aG 56 (aF Try.prog 56 Dz) (aF Try.prog 57 Dd))) (aG 59 (aG 58 (aF Try.prog 58 Cz) (aF Try.prog 59 C2)) (aG 60 (aF Try.prog 60 C7) (aF Try.prog 61 Cx)))))))
theorem zF:ez Try.prog code:=(ai (ai (ai (ai (ai (ah BA) (ai (ah Cj) (ah qL))) (ai (ai (ah Bs) (ah ww)) (ai (ah wF) (ah uU)))) (ai (ai (ah rW) (ai (ah sr) (ah sf))) (ai (ai (ah sx) (ah sB)) (ai (ah rD) (ah xO))))) (ai (ai (ai (ah xD) (ai (ah zw) (ah sC))) (ai (ai (ah sD) (ah xz)) (ai (ah zm) (ah sE)))) (ai (ai (ai (ah x6) (ah z7)) (ai (ah xk) (ah rU))) (ai (ai (ah yj) (ah xL)) (ai (ah zR) (ah xP)))))) (ai (ai (ai (ai (ah zg) (ai (ah yD) (ah zQ))) (ai (ai (ah zi) (ah yM)) (ai (ah yf) (ah Ao)))) (ai (ai (ai (ah xJ) (ah xF)) (ai (ah zr) (ah x8))) (ai (ai (ah xe) (ah yA)) (ai (ah xQ) (ah Ac))))) (ai (ai (ai (ah y8) (ai (ah yr) (ah yo))) (ai (ai (ah xB) (ah y6)) (ai (ah yN) (ah yI)))) (ai (ai (ai (ah xi) (ah zG)) (ai (ah zB) (ah yW))) (ai (ai (ah yq) (ah ye)) (ai (ah yi) (ah Ae)))))))
end OD
/-
  DERIVED: THE SHELF's CONTRACTS AT THIS DUMP, IN PLAIN WORDS (tools/lay-plain.mjs out of 'TryShq.lean', which tools/lay-shelf.mjs wrote): THE SAME DECLARATIONS UNDER THE SAME NAMES: 'import', 'namespace', 'open', 'def', 'theorem' AND NOTHING ELSE: no command of the shelf's: FOR A HAND-IN. Each laying: the table of numbers ('.._ren') and one theorem, a field a fact of the dump's own or the kernel's comparison; each contract: ONE APPLICATION.
-/
namespace Go.Proofs
open Go.Shelf
def Try.keysA_ren : Go.Shelf.Ren := ⟨fun | 7 => 22 | 10 => 30 | n => n, fun | 23 => 39 | 26 => 3 | 3 => 52 | 28 => 48 | 0 => 0 | 27 => 47 | 33 => 33 | 4 => 4 | n => n, fun | n => n⟩
theorem Try.keysA : Go.Proofs.SlLaysZI.n7 Try.prog Try.keysA_ren := {
  mixed := by kernel_rfl
  f7 := ⟨Try.f22.name, by decide, Try.func22.trans (congrArg some (by kernel_rfl))⟩
  f10 := ⟨Try.f30.name, by decide, Try.func30.trans (congrArg some (by kernel_rfl))⟩
  t0 := Try.underlying0
  a0 := Try.isAgg0
  z0 := Try.sizeOf0
  v0 := Try.zeroValue0
  t4 := Try.underlying4
  a4 := Try.isAgg4
  z4 := Try.sizeOf4
  v4 := Try.zeroValue4
  t23 := Try.underlying39
  a23 := Try.isAgg39
  z23 := Try.sizeOf39
  v23 := Try.zeroValue39
  t26 := Try.underlying3
  a26 := Try.isAgg3
  z26 := Try.sizeOf3
  v26 := Try.zeroValue3
  t27 := Try.underlying47
  a27 := Try.isAgg47
  z27 := Try.sizeOf47
  v27 := Try.zeroValue47
  t28 := Try.underlying48
  a28 := Try.isAgg48
  z28 := Try.sizeOf48
  v28 := Try.zeroValue48
  t33 := Try.underlying33
  a33 := Try.isAgg33
  z33 := Try.sizeOf33
  v33 := Try.zeroValue33 }
def Try.sortedA_ren : Go.Shelf.Ren := ⟨fun | 6 => 21 | 8 => 28 | 9 => 29 | 11 => 41 | 13 => 25 | 12 => 42 | 23 => 39 | 24 => 40 | 14 => 48 | 15 => 49 | 16 => 50 | 17 => 51 | 18 => 52 | 19 => 53 | 20 => 54 | 21 => 55 | 22 => 56 | 25 => 58 | 26 => 44 | 27 => 45 | 28 => 59 | 29 => 60 | 30 => 26 | 31 => 61 | n => n, fun | 26 => 3 | 28 => 48 | 24 => 27 | 0 => 0 | 3 => 3 | 37 => 64 | 48 => 75 | 50 => 24 | 4 => 4 | 40 => 68 | 39 => 67 | 45 => 72 | 5 => 5 | 9 => 9 | 51 => 79 | 55 => 83 | 57 => 91 | 58 => 92 | 33 => 33 | n => n, fun | n => n⟩
theorem Try.sortedA : Go.Proofs.SlLaysZI.n6 Try.prog Try.sortedA_ren := {
  mixed := by kernel_rfl
  f6 := ⟨Try.f21.name, by decide, Try.func21.trans (congrArg some (by kernel_rfl))⟩
  f8 := ⟨Try.f28.name, by decide, Try.func28.trans (congrArg some (by kernel_rfl))⟩
  f11 := ⟨Try.f41.name, by decide, Try.func41.trans (congrArg some (by kernel_rfl))⟩
  t0 := Try.underlying0
  a0 := Try.isAgg0
  z0 := Try.sizeOf0
  v0 := Try.zeroValue0
  t24 := Try.underlying27
  a24 := Try.isAgg27
  z24 := Try.sizeOf27
  v24 := Try.zeroValue27
  t26 := Try.underlying3
  a26 := Try.isAgg3
  z26 := Try.sizeOf3
  v26 := Try.zeroValue3
  t28 := Try.underlying48
  a28 := Try.isAgg48
  z28 := Try.sizeOf48
  v28 := Try.zeroValue48
  i26 := by kernel_rfl }
end Go.Proofs
/-
  DERIVED: THE SHELF's CONTRACTS AT THIS DUMP, IN PLAIN WORDS (tools/lay-plain.mjs out of 'TryShq.lean', which tools/lay-shelf.mjs wrote): THE SAME DECLARATIONS UNDER THE SAME NAMES: 'import', 'namespace', 'open', 'def', 'theorem' AND NOTHING ELSE: no command of the shelf's: FOR A HAND-IN. Each laying: the table of numbers ('.._ren') and one theorem, a field a fact of the dump's own or the kernel's comparison; each contract: ONE APPLICATION.
-/
namespace Go.Proofs
open Go.Shelf
def Try.cmpInt_ren : Go.Shelf.Ren := ⟨fun | 5 => 18 | 7 => 26 | n => n, fun | 22 => 3 | 3 => 3 | 4 => 4 | n => n, fun | n => n⟩
theorem Try.cmpInt : Go.Proofs.SlLaysC2.n5 Try.prog Try.cmpInt_ren := {
  mixed := by kernel_rfl
  f5 := ⟨Try.f18.name, by decide, Try.func18.trans (congrArg some (by kernel_rfl))⟩
  f7 := ⟨Try.f26.name, by decide, Try.func26.trans (congrArg some (by kernel_rfl))⟩
  t3 := Try.underlying3
  a3 := Try.isAgg3
  z3 := Try.sizeOf3
  v3 := Try.zeroValue3
  t4 := Try.underlying4
  a4 := Try.isAgg4
  z4 := Try.sizeOf4
  v4 := Try.zeroValue4
  t22 := Try.underlying3
  a22 := Try.isAgg3
  z22 := Try.sizeOf3
  v22 := Try.zeroValue3 }
end Go.Proofs
/-
  DERIVED: THE SHELF's CONTRACTS AT THIS DUMP, IN PLAIN WORDS (tools/lay-plain.mjs out of 'TryShq.lean', which tools/lay-shelf.mjs wrote): THE SAME DECLARATIONS UNDER THE SAME NAMES: 'import', 'namespace', 'open', 'def', 'theorem' AND NOTHING ELSE: no command of the shelf's: FOR A HAND-IN. Each laying: the table of numbers ('.._ren') and one theorem, a field a fact of the dump's own or the kernel's comparison; each contract: ONE APPLICATION.
-/
namespace Go.Proofs
open Go.Shelf
def Try.sortIv_ren : Go.Shelf.Ren := ⟨fun | 6 => 16 | 15 => 25 | 14 => 24 | 28 => 39 | 29 => 40 | 20 => 31 | 21 => 32 | 22 => 33 | 23 => 34 | 24 => 35 | 25 => 36 | 26 => 37 | 27 => 38 | 46 => 43 | 47 => 44 | 48 => 45 | 49 => 46 | 50 => 47 | 57 => 57 | n => n, fun | 22 => 41 | 24 => 46 | 25 => 55 | 3 => 3 | 39 => 64 | 0 => 0 | 53 => 75 | 55 => 24 | 4 => 4 | 46 => 68 | 45 => 67 | 50 => 72 | 5 => 5 | 9 => 9 | 66 => 79 | 70 => 83 | 76 => 91 | 77 => 92 | n => n, fun | n => n⟩
theorem Try.sortIv : Go.Proofs.SlLaysF0.n6 Try.prog Try.sortIv_ren := {
  mixed := by kernel_rfl
  f6 := ⟨Try.f16.name, by decide, Try.func16.trans (congrArg some (by kernel_rfl))⟩
  f14 := ⟨Try.f24.name, by decide, Try.func24.trans (congrArg some (by kernel_rfl))⟩
  f15 := Try.func25.trans (congrArg some (by kernel_rfl))
  f20 := ⟨Try.f31.name, by decide, Try.func31.trans (congrArg some (by kernel_rfl))⟩
  f21 := ⟨Try.f32.name, by decide, Try.func32.trans (congrArg some (by kernel_rfl))⟩
  f22 := ⟨Try.f33.name, by decide, Try.func33.trans (congrArg some (by kernel_rfl))⟩
  f23 := ⟨Try.f34.name, by decide, Try.func34.trans (congrArg some (by kernel_rfl))⟩
  f24 := ⟨Try.f35.name, by decide, Try.func35.trans (congrArg some (by kernel_rfl))⟩
  f25 := ⟨Try.f36.name, by decide, Try.func36.trans (congrArg some (by kernel_rfl))⟩
  f26 := ⟨Try.f37.name, by decide, Try.func37.trans (congrArg some (by kernel_rfl))⟩
  f27 := ⟨Try.f38.name, by decide, Try.func38.trans (congrArg some (by kernel_rfl))⟩
  f28 := Try.func39.trans (congrArg some (by kernel_rfl))
  f29 := Try.func40.trans (congrArg some (by kernel_rfl))
  f46 := ⟨Try.f43.name, by decide, Try.func43.trans (congrArg some (by kernel_rfl))⟩
  f47 := Try.func44.trans (congrArg some (by kernel_rfl))
  f48 := Try.func45.trans (congrArg some (by kernel_rfl))
  f49 := ⟨Try.f46.name, by decide, Try.func46.trans (congrArg some (by kernel_rfl))⟩
  f50 := ⟨Try.f47.name, by decide, Try.func47.trans (congrArg some (by kernel_rfl))⟩
  f57 := ⟨Try.f57.name, by decide, Try.func57.trans (congrArg some (by kernel_rfl))⟩
  t0 := Try.underlying0
  a0 := Try.isAgg0
  z0 := Try.sizeOf0
  v0 := Try.zeroValue0
  t3 := Try.underlying3
  a3 := Try.isAgg3
  z3 := Try.sizeOf3
  v3 := Try.zeroValue3
  t4 := Try.underlying4
  a4 := Try.isAgg4
  z4 := Try.sizeOf4
  v4 := Try.zeroValue4
  t5 := Try.underlying5
  a5 := Try.isAgg5
  z5 := Try.sizeOf5
  v5 := Try.zeroValue5
  t9 := Try.underlying9
  a9 := Try.isAgg9
  z9 := Try.sizeOf9
  v9 := Try.zeroValue9
  t22 := Try.underlying41
  a22 := Try.isAgg41
  z22 := Try.sizeOf41
  v22 := Try.zeroValue41
  t25 := Try.underlying55
  a25 := Try.isAgg55
  z25 := Try.sizeOf55
  v25 := Try.zeroValue55
  t39 := Try.underlying64
  a39 := Try.isAgg64
  z39 := Try.sizeOf64
  v39 := Try.zeroValue64
  t45 := Try.underlying67
  a45 := Try.isAgg67
  z45 := Try.sizeOf67
  v45 := Try.zeroValue67
  t46 := Try.underlying68
  a46 := Try.isAgg68
  z46 := Try.sizeOf68
  v46 := Try.zeroValue68
  t50 := Try.underlying72
  a50 := Try.isAgg72
  z50 := Try.sizeOf72
  v50 := Try.zeroValue72
  t53 := Try.underlying75
  a53 := Try.isAgg75
  z53 := Try.sizeOf75
  v53 := Try.zeroValue75
  t55 := Try.underlying24
  a55 := Try.isAgg24
  z55 := Try.sizeOf24
  v55 := Try.zeroValue24
  t66 := Try.underlying79
  a66 := Try.isAgg79
  z66 := Try.sizeOf79
  v66 := Try.zeroValue79
  t70 := Try.underlying83
  a70 := Try.isAgg83
  z70 := Try.sizeOf83
  v70 := Try.zeroValue83
  t76 := Try.underlying91
  a76 := Try.isAgg91
  z76 := Try.sizeOf91
  v76 := Try.zeroValue91
  t77 := Try.underlying92
  a77 := Try.isAgg92
  z77 := Try.sizeOf92
  v77 := Try.zeroValue92 }
end Go.Proofs
/-
  DERIVED: THE SHELF's CONTRACTS AT THIS DUMP, IN PLAIN WORDS (tools/lay-plain.mjs out of 'TryShq.lean', which tools/lay-shelf.mjs wrote): THE SAME DECLARATIONS UNDER THE SAME NAMES: 'import', 'namespace', 'open', 'def', 'theorem' AND NOTHING ELSE: no command of the shelf's: FOR A HAND-IN. Each laying: the table of numbers ('.._ren') and one theorem, a field a fact of the dump's own or the kernel's comparison; each contract: ONE APPLICATION.
-/
namespace Go.Proofs
open Go.Shelf
def Try.sortA_ren : Go.Shelf.Ren := ⟨fun | 5 => 29 | 8 => 25 | 7 => 42 | 19 => 39 | 20 => 40 | 10 => 48 | 11 => 49 | 12 => 50 | 13 => 51 | 14 => 52 | 15 => 53 | 16 => 54 | 17 => 55 | 18 => 56 | 30 => 58 | 31 => 44 | 32 => 45 | 33 => 59 | 34 => 60 | 35 => 26 | 40 => 61 | n => n, fun | 23 => 27 | 25 => 3 | 3 => 3 | 32 => 64 | 22 => 27 | 0 => 0 | 44 => 75 | 46 => 24 | 4 => 4 | 36 => 68 | 35 => 67 | 41 => 72 | 5 => 5 | 9 => 9 | 53 => 79 | 57 => 83 | 63 => 91 | 64 => 92 | n => n, fun | n => n⟩
theorem Try.sortA : Go.Proofs.SlLaysM.n5 Try.prog Try.sortA_ren := {
  mixed := by kernel_rfl
  f5 := ⟨Try.f29.name, by decide, Try.func29.trans (congrArg some (by kernel_rfl))⟩
  f7 := ⟨Try.f42.name, by decide, Try.func42.trans (congrArg some (by kernel_rfl))⟩
  f8 := Try.func25.trans (congrArg some (by kernel_rfl))
  f10 := ⟨Try.f48.name, by decide, Try.func48.trans (congrArg some (by kernel_rfl))⟩
  f11 := ⟨Try.f49.name, by decide, Try.func49.trans (congrArg some (by kernel_rfl))⟩
  f12 := ⟨Try.f50.name, by decide, Try.func50.trans (congrArg some (by kernel_rfl))⟩
  f13 := ⟨Try.f51.name, by decide, Try.func51.trans (congrArg some (by kernel_rfl))⟩
  f14 := ⟨Try.f52.name, by decide, Try.func52.trans (congrArg some (by kernel_rfl))⟩
  f15 := ⟨Try.f53.name, by decide, Try.func53.trans (congrArg some (by kernel_rfl))⟩
  f16 := ⟨Try.f54.name, by decide, Try.func54.trans (congrArg some (by kernel_rfl))⟩
  f17 := ⟨Try.f55.name, by decide, Try.func55.trans (congrArg some (by kernel_rfl))⟩
  f18 := ⟨Try.f56.name, by decide, Try.func56.trans (congrArg some (by kernel_rfl))⟩
  f19 := Try.func39.trans (congrArg some (by kernel_rfl))
  f20 := Try.func40.trans (congrArg some (by kernel_rfl))
  f30 := ⟨Try.f58.name, by decide, Try.func58.trans (congrArg some (by kernel_rfl))⟩
  f31 := Try.func44.trans (congrArg some (by kernel_rfl))
  f32 := Try.func45.trans (congrArg some (by kernel_rfl))
  f33 := ⟨Try.f59.name, by decide, Try.func59.trans (congrArg some (by kernel_rfl))⟩
  f34 := ⟨Try.f60.name, by decide, Try.func60.trans (congrArg some (by kernel_rfl))⟩
  f35 := ⟨Try.f26.name, by decide, Try.func26.trans (congrArg some (by kernel_rfl))⟩
  f40 := ⟨Try.f61.name, by decide, Try.func61.trans (congrArg some (by kernel_rfl))⟩
  t0 := Try.underlying0
  a0 := Try.isAgg0
  z0 := Try.sizeOf0
  v0 := Try.zeroValue0
  t3 := Try.underlying3
  a3 := Try.isAgg3
  z3 := Try.sizeOf3
  v3 := Try.zeroValue3
  t4 := Try.underlying4
  a4 := Try.isAgg4
  z4 := Try.sizeOf4
  v4 := Try.zeroValue4
  t5 := Try.underlying5
  a5 := Try.isAgg5
  z5 := Try.sizeOf5
  v5 := Try.zeroValue5
  t9 := Try.underlying9
  a9 := Try.isAgg9
  z9 := Try.sizeOf9
  v9 := Try.zeroValue9
  t22 := Try.underlying27
  a22 := Try.isAgg27
  z22 := Try.sizeOf27
  v22 := Try.zeroValue27
  t23 := Try.underlying27
  a23 := Try.isAgg27
  z23 := Try.sizeOf27
  v23 := Try.zeroValue27
  t25 := Try.underlying3
  a25 := Try.isAgg3
  z25 := Try.sizeOf3
  v25 := Try.zeroValue3
  t32 := Try.underlying64
  a32 := Try.isAgg64
  z32 := Try.sizeOf64
  v32 := Try.zeroValue64
  t35 := Try.underlying67
  a35 := Try.isAgg67
  z35 := Try.sizeOf67
  v35 := Try.zeroValue67
  t36 := Try.underlying68
  a36 := Try.isAgg68
  z36 := Try.sizeOf68
  v36 := Try.zeroValue68
  t41 := Try.underlying72
  a41 := Try.isAgg72
  z41 := Try.sizeOf72
  v41 := Try.zeroValue72
  t44 := Try.underlying75
  a44 := Try.isAgg75
  z44 := Try.sizeOf75
  v44 := Try.zeroValue75
  t46 := Try.underlying24
  a46 := Try.isAgg24
  z46 := Try.sizeOf24
  v46 := Try.zeroValue24
  t53 := Try.underlying79
  a53 := Try.isAgg79
  z53 := Try.sizeOf79
  v53 := Try.zeroValue79
  t57 := Try.underlying83
  a57 := Try.isAgg83
  z57 := Try.sizeOf83
  v57 := Try.zeroValue83
  t63 := Try.underlying91
  a63 := Try.isAgg91
  z63 := Try.sizeOf91
  v63 := Try.zeroValue91
  t64 := Try.underlying92
  a64 := Try.isAgg92
  z64 := Try.sizeOf92
  v64 := Try.zeroValue92 }
end Go.Proofs
open Go Nm
namespace OD
noncomputable def S1:bA:=uC 22 (me 30) (uC 21 (gg 30) (uC 16 (cE 17) F9))
theorem kept:o6 code S1 4000 6 [] (.bool true)=true:=by kernel_rfl
noncomputable def S0:bA:=CC 6 [] (.bool true) S1
end OD
open Go Nm Go.Proofs
namespace OD
section
variable [Val]
theorem A9:ei Try.prog 22 (me 30):=zY Try.keysA rfl rfl
theorem wx (hsort:∀m,AnyZI.SortsIn Try.prog Try.sortedA_ren Fence.wide m):ei Try.prog 21 (gg 30):=
 tM (ρk:=Try.keysA_ren) {Try.keysA with} Try.sortedA hsort (enters_of Try.func29 (by kernel_rfl) rfl) rfl rfl (enters_of Try.func21 (by kernel_rfl) rfl)
end
end OD
open Go Nm Go.Proofs Go.RowKit
namespace OD
set_option maxHeartbeats 1000000 in
theorem uh (x y:Int×Int) (W:World):Calls Try.prog 17 #[.agg #[.int .i64 x.1,.int .i64 x.2],.agg #[.int .i64 y.1,.int .i64 y.2]] W fun e w'=>e= .returned (.int .i64 (Lib.compareInt x.1 y.1))/\∃q os',w'=Go.Sort.grow (W.drewN q) os':=by
 have hcon:=fun W'=>AnyG.cmp_Compare_int Try.cmpInt x.1 y.1 W'
 change ∀W',Calls Try.prog 18 _ _ _ at hcon
 generalize Lib.compareInt x.1 y.1=r at hcon ⊢
 go_enter Try.func17,Try.ntmps17
 go_wp2_with (go_at_call 18;refine (hcon _).mono ?_;rintro e w' ⟨rfl,rfl⟩)
 go_ret
 exact ⟨rfl,0,_,by rw[Go.Sort.alloc_eq_grow,Go.Sort.alloc_eq_grow,Go.Sort.grow_grow];rfl⟩
end OD
open Go Nm Go.Proofs Go.RowKit
namespace OD
theorem mixed:Try.prog.follows .mixedOrders=true:=by kernel_rfl
section
variable [Val]
theorem DM (h1:ei Try.prog 16 (cE 17)) (hsort:∀m,AnyZI.SortsIn Try.prog Try.sortedA_ren Fence.wide m):dR Try.prog S0:=
 Ak mixed Try.codeOk (mu (mu (mu wi h1) (wx hsort)) A9) (zF.kept kept)
end
end OD
open Go Nm Go.Proofs Go.RowKit Go.Shelf Go.ChangeShapes
namespace OD
theorem C6 (blk off size:Nat) (w:World):CmpLays Try.prog 17 #[] gT 2 (fun x y=>Lib.compareInt x.1 y.1) blk off size w:=fun _ _ _ _ x y=>uh x y _
section
variable [Val]
theorem rq:ei Try.prog 16 (cE 17):=
 pu (enters_of Try.func16 (by kernel_rfl) rfl)
  (fun blk off cap d w hH hblk hsz=>AnyQ.slices_SortFunc Try.sortIv 2 Try.isAgg46 Try.sizeOf46 gT (fun _=>rfl) (fun x v hv=>by simp[gT] at hv;rcases hv with rfl|rfl<;>rfl) (fun x y=>Lib.compareInt x.1 y.1) sK 17 #[] blk off cap d w (enters_of Try.func17 (by kernel_rfl) rfl) (C6 blk off d.size w) hH hblk hsz)
  (AnyF.slices_SortFunc_none Try.sortIv)
theorem AN (m:Nat):AnyZI.SortsIn Try.prog Try.sortedA_ren Fence.wide m:=
 ⟨fun blk off cap ss W hH hblk hsz=>callsIn_wide.2 (AnyM.slices_Sort_int Try.sortA blk off cap ss W hH hblk hsz),fun p cap W=>callsIn_wide.2 (AnyM.slices_Sort_int_none Try.sortA p cap W)⟩
theorem AM:dR Try.prog S0:=DM rq AN
end
end OD
open Nm
namespace OD
structure Ev where
 (k c a v:Int)
structure Tr where
 (e:Ev) (p:Int) (o:Bool)
section
variable {α β:Type}
def iP (k:Int):List (Int×α)->Option α
 | []=>none
 |x::l=>if k=x.1 then some x.2 else iP k l
def Ap (k:Int) (v:α):List (Int×α)->List (Int×α)
 | []=> [(k,v)]
 |x::l=>if k=x.1 then (k,v)::l else x::Ap k v l
def del (k:Int):List (Int×α)->List (Int×α)
 | []=> []
 |x::l=>if k=x.1 then l else x::del k l
end
structure Wk where
 (t:List (Int×Tr)) (d:List (Int×Int)) (b:List (Int×Int))
def dT (c:Int) (s:Wk):Wk:=match iP c s.t with
 |some t=>⟨del c s.t,s.d++ [(t.p,c)],s.b⟩
 |none=>s
def rS (s:Wk) (e:Ev):Bool:=match iP e.c s.t with
 |some t=>t.o&&(decide (t.e.a=e.a)&&(decide (e.k=2)||decide (e.k=3)))
 |none=>false
def A4 (i:Int) (e:Ev) (s:Wk):Wk:=⟨Ap e.c ⟨e,i,decide (e.k=2)⟩ s.t,s.d,s.b⟩
def km (i:Int) (e:Ev) (s:Wk):Wk:=A4 i e (if rS s e then s else dT e.c s)
def uw (i:Int) (c:Int) (s:Wk):Wk:=⟨s.t,s.d++ [(i,c)],s.b⟩
noncomputable def dQ (s:Wk):List Int:=iE (s.t.map Prod.fst)
noncomputable def fp (i:Int) (e:Ev) (s:Wk):Wk:=
 if e.k=1∨e.k=2∨e.k=3 then km i e s
 else if e.k=4 then uw i e.c (dT e.c s)
 else if e.k=6∨e.k=10 then dT e.c s
 else if e.k=9 then (dQ s).foldl (fun s c=>dT c s) s
 else if e.k=7 then ⟨s.t,s.d,Ap e.a (i+1) s.b⟩
 else s
def oP (a:Int):Int:=if a<4096 then -1 else (a - 4096) / 64
def ma (s:Wk) (t:Tr):Bool:=decide (t.e.k=3)&&(match iP (oP t.e.a) s.b with|some x=>decide (t.p<x)|none=>false)
def cr (s:Wk) (c:Int):Wk:=match iP c s.t with
 |some t=>if ma s t then dT c s else s
 |none=>s
noncomputable def At (s:Wk):Wk:=(dQ s).foldl cr s
noncomputable def fj (s:Wk):List Int:=(bp (At s).d).map Prod.snd
def w0:Wk:=⟨[], [], []⟩
noncomputable def Gc (l:List Ev):Int->Wk->List Int:=List.rec (fun _ s=>fj s) (fun e _ ih i s=>if e.k=8 then fj s++-1::ih (i+1) w0 else ih (i+1) (fp i e s)) l
noncomputable abbrev w8 (i:Int) (s:Wk) (l:List Ev):List Int:=Gc l i s
theorem oL (i:Int) (s:Wk) (e:Ev) (l:List Ev):w8 i s (e::l)=if e.k=8 then fj s++-1::w8 (i+1) w0 l else w8 (i+1) (fp i e s) l:=rfl
def lL (i:Int):List Int->List (Int×Int)
 | []=> []
 |c::l=>(i,c)::lL (i+1) l
theorem wR:∀(l:List Int) (i:Int),(lL i l).map Prod.snd=l:=by
 intro l
 induction l with
 |nil=>intro i;rfl
 |cons c l ih=>intro i;simp[lL,ih]
theorem tW:∀(l:List Int) (i:Int),bp (lL i l)=lL i l:=by
 intro l
 induction l with
 |nil=>intro i;rfl
 |cons c l ih=>
  intro i
  show g7 (i,c) (bp (lL (i+1) l))=(i,c)::lL (i+1) l
  rw[ih]
  cases l with
  |nil=>rfl
  |cons d l=>
   show cond (eT i (i+1)) _ _=_
   rw[a7,Gl (by omega)];rfl
theorem uY:∀(l:List Int) (i:Int) (d:List (Int×Int)),w8 i ⟨[],d, []⟩ (l.map fun c=>⟨4,c,0,0⟩)=(bp (d++lL i l)).map Prod.snd:=by
 intro l
 induction l with
 |nil=>intro i d;show (bp d).map Prod.snd=_;simp[lL]
 |cons c l ih=>
  intro i d
  rw[List.map_cons,oL,Gi (by simp),show fp i ⟨4,c,0,0⟩ ⟨[],d, []⟩=⟨[],d++ [(i,c)], []⟩ from rfl,ih]
  simp[lL]
theorem tf (l:List Int):w8 0 w0 (l.map fun c=>⟨4,c,0,0⟩)=l:=by
 have:=uY l 0 []
 rw[List.nil_append,tW,wR] at this
 exact this
end OD
open Go Nm Go.Proofs
namespace OD
theorem gq {k:D4} {L:List (D4×NV)} {t:Tm} {v:Option NV} (h:cP k L (NT.get k t)=v):NT.get k (ap L t)=v:=(dh k L t).trans h
section
variable {l:List (AK×NO)} {k j:Nat} {m M:NH} {id:D4} {o:NO} {S:List D4}
theorem DJ (ho:aM m id) (h:hp ((.o id,o)::l) k m=M):M.get id=some o:=by rw[←h];exact (nG ho).trans kJ
theorem fJ (h:hp l k m=M) (hs:tQ l=S):Chg S m M:=by rw[←h];exact eV hs
theorem eY (h:hp l k m=M) (hj:j<k):aM M (na m j):=by rw[←h];exact aC hj
theorem eZ (h:hp l k m=M):M.get (na m j)=jC j l (m.get (na m j)):=by rw[←h];exact m7
end
abbrev ii (z:Int):NV:= .int .i64 (.lit z)
abbrev iu (z:Int):NV:= .int .u64 (.lit z)
structure EvF (F F':List D4) (m m':NH):Prop where
 c:Chg F m m'
 f:∀j∈F',j∈F∨¬aM m j
section
variable {m m' m'':NH} {F F' F'':List D4}
theorem EvF.trans (h:EvF F F' m m') (h':EvF F' F'' m' m''):EvF F F'' m m'':=
 ⟨h.c.trans h'.c fun i hi ho=>(h.f i hi).elim id fun q=>Gh ho q,fun j hj=>(h'.f j hj).elim (h.f j) fun q=>Or.inr fun ho=>q (h.c.old ho)⟩
theorem EvF.refl (m:NH):EvF F F m m:=⟨(Chg.refl m).weak (by simp),fun j hj=>Or.inl hj⟩
theorem EvF.grow (hC:Chg [] m m'):EvF F F m m':=⟨hC.weak (by simp),fun j hj=>Or.inl hj⟩
theorem EvF.pre (hC:Chg [] m m') (h:EvF F F' m' m''):EvF F F' m m'':=(EvF.grow hC).trans h
theorem EvF.nin (h:EvF F F' m m') {i:D4} (ho:aM m i) (hi:i∉F):i∉F':=fun q=>(h.f i q).elim hi fun q=>q ho
theorem EvF.get (h:EvF F F' m m') {i:D4} (ho:aM m i) (hi:i∉F):m'.get i=m.get i:=h.c.get ho hi
end
theorem kT (a b:Int):di false (ii a) (ii b)=some (decide (a=b)):=by
 show cond (e8 .i64 .i64) (some (fZ a b)) none=_
 rw[a8];rfl
section
variable {α:Type} {f:α->NV} (k:Int)
abbrev cp (f:α->NV) (l:List (Int×α)):List (NV×NV):=l.map fun x=>(ii x.1,f x.2)
theorem hV:∀l:List (Int×α),gt false (ii k) (cp f l)=some ((iP k l).map f):=by
 intro l
 induction l with
 |nil=>rfl
 |cons a l ih=>
  show Option.rec (motive:=fun _=>Option (Option NV)) none (fun b=>cond b (some (some (f a.2))) (gt false (ii k) (cp f l))) (di false (ii k) (ii a.1))=_
  rw[kT,ih,iP]
  by_cases h:k=a.1<;>simp[h]
theorem zW (v:α):∀l:List (Int×α),kQ false (ii k) (f v) (cp f l)=some (cp f (Ap k v l)):=by
 intro l
 induction l with
 |nil=>rfl
 |cons a l ih=>
  show Option.rec (motive:=fun _=>Option (List (NV×NV))) none (fun b=>cond b (some ((ii k,f v)::cp f l)) (Option.rec none (fun t=>some ((ii a.1,f a.2)::t)) (kQ false (ii k) (f v) (cp f l)))) (di false (ii k) (ii a.1))=_
  rw[kT,ih,Ap]
  by_cases h:k=a.1<;>simp[h]
theorem zX:∀l:List (Int×α),kP false (ii k) (cp f l)=some (cp f (del k l)):=by
 intro l
 induction l with
 |nil=>rfl
 |cons a l ih=>
  show Option.rec (motive:=fun _=>Option (List (NV×NV))) none (fun b=>cond b (some (cp f l)) (Option.rec none (fun t=>some ((ii a.1,f a.2)::t)) (kP false (ii k) (cp f l)))) (di false (ii k) (ii a.1))=_
  rw[kT,ih,del]
  by_cases h:k=a.1<;>simp[h]
variable {z:NV} {ok:Bool} {m:NH} {id:D4} {l:List (Int×α)}
theorem sA {v:α} (h:iP k l=some v):uz false z false (ii k) (cp f l)= .val (f v):=by unfold uz;rw[hV,h];rfl
theorem rX (h:iP k l=none):uz false z false (ii k) (cp f l)= .val z:=by unfold uz;rw[hV,h];rfl
theorem fO {v:α} (h:iP k l=some v):uz false z true (ii k) (cp f l)= .val (.tup [f v,.bool true]):=by unfold uz;rw[hV,h];rfl
theorem oo (h:iP k l=none):uz false z true (ii k) (cp f l)= .val (.tup [z,.bool false]):=by unfold uz;rw[hV,h];rfl
theorem vt (v:α):CJ false id (ii k) (f v) m (some (.map (cp f l)))= .mem ax (m.put id (.map (cp f (Ap k v l)))):=by
 show aI (kQ false (ii k) (f v) (cp f l)) _=_
 rw[zW];rfl
theorem Cc:wd false id (ii k) m (some (.map (cp f l)))= .mem ax (m.put id (.map (cp f (del k l)))):=by
 show aI (kP false (ii k) (cp f l)) _=_
 rw[zX];rfl
end
abbrev Ev.l (e:Ev):List NV:= [ii e.k,ii e.c,ii e.a,iu e.v]
abbrev uo (t:Tr):NV:= .agg [ii t.e.k,ii t.e.c,ii t.e.a,iu t.e.v,ii t.p,.bool t.o]
abbrev FS (x:Int):NV:=ii x
abbrev dC (x:Int×Int):List NV:= [ii x.1,ii x.2]
structure WK (B m:NH) (p a b:D4) (v:NV) (s:Wk):Prop where
 g:m.get p=some (.cells true [.map a,v,.map b])
 ga:m.get a=some (.map (cp uo s.t))
 gb:m.get b=some (.map (cp FS s.b))
 o:aM m p
 oa:aM m a
 ob:aM m b
 n:¬aM B p
 na:¬aM B a
 nb:¬aM B b
 pa:p≠a
 pb:p≠b
 ab:a≠b
 d:cC B m v 2 (s.d.map dC)
 pd:p∉ids v
 ad:a∉ids v
 bd:b∉ids v
 c:Chg [] B m
abbrev ft (p a b:D4) (v:NV):List D4:=p::a::b::ids v
section
variable {B m m' M:NH} {p a b:D4} {v v':NV} {s s':Wk}
theorem WK.old (h:WK B m p a b v s):∀i∈ft p a b v,aM m i/\¬aM B i:=by
 intro i hi
 simp only[ft,List.mem_cons] at hi
 rcases hi with rfl|rfl|rfl|hi
 ·exact ⟨h.o,h.n⟩
 ·exact ⟨h.oa,h.na⟩
 ·exact ⟨h.ob,h.nb⟩
 ·exact ⟨h.d.sl.old _ hi,h.d.new _ hi⟩
theorem WK.grow (h:WK B m p a b v s) {S:List D4} (hC:Chg S m m') (hS:∀i∈ft p a b v,i∉S) (hB:∀i∈S,¬aM B i):WK B m' p a b v s:=
 ⟨(hC.get h.o (hS _ (by simp[ft]))).trans h.g,(hC.get h.oa (hS _ (by simp[ft]))).trans h.ga,(hC.get h.ob (hS _ (by simp[ft]))).trans h.gb,hC.old h.o,hC.old h.oa,hC.old h.ob,h.n,h.na,h.nb,h.pa,h.pb,h.ab,
  h.d.chg hC fun i hi=>hS i (by simp[ft,hi]),h.pd,h.ad,h.bd,h.c.trans hC fun i hi ho=>Gh ho (hB i hi)⟩
theorem WK.grow0 (h:WK B m p a b v s) (hC:Chg [] m m'):WK B m' p a b v s:=h.grow hC (by simp) (by simp)
theorem WK.chg (h:WK B m p a b v s) {F:List D4} (hE:EvF (ft p a b v) F m m'):Chg [] B m':=h.c.trans hE.c fun i hi ho=>Gh ho (h.old i hi).2
theorem gF {m:NH} {i:D4} {x:NO} (ho:aM m i):hp [(.o i,x)] 0 m=m.put i x:=by rw[←lv ho,aQ]
theorem cG {m:NH} {i j:D4} {x:NO} (ho:aM m j):aM (m.put i x) j:=(Chg.put m i x).old ho
theorem jL {m:NH} {i:D4} {x:NO} (ho:aM m i):(m.put i x).get i=some x:=by rw[←gF ho];exact (nG ho).trans kJ
theorem WK.put (h:WK B m p a b v s) (i:D4) (x:NO) (hi:i∈ft p a b v):Chg [] B (m.put i x):=h.c.trans (Chg.put m i x) fun j hj ho=>by
 have:=List.mem_singleton.1 hj;subst this;exact Gh ho (h.old _ hi).2
theorem WK.putE (h:WK B m p a b v s) (i:D4) (x:NO) (hi:i∈ft p a b v):EvF (ft p a b v) (ft p a b v) m (m.put i x):=
 ⟨(Chg.put m i x).weak fun j hj _=>by have:=List.mem_singleton.1 hj;subst this;exact hi,fun j hj=>Or.inl hj⟩
theorem WK.setT (h:WK B m p a b v s) (t:List (Int×Tr)):WK B (m.put a (.map (cp uo t))) p a b v ⟨t,s.d,s.b⟩:=
 ⟨((Chg.put m a _).get h.o (by simpa using h.pa)).trans h.g,jL h.oa,((Chg.put m a _).get h.ob (by simpa using h.ab.symm)).trans h.gb,cG h.o,cG h.oa,cG h.ob,h.n,h.na,h.nb,h.pa,h.pb,h.ab,
  h.d.chg (Chg.put m a _) fun i hi q=>h.ad (List.mem_singleton.1 q▸hi),h.pd,h.ad,h.bd,h.put a _ (by simp[ft])⟩
theorem WK.setB (h:WK B m p a b v s) (t:List (Int×Int)):WK B (m.put b (.map (cp FS t))) p a b v ⟨s.t,s.d,t⟩:=
 ⟨((Chg.put m b _).get h.o (by simpa using h.pb)).trans h.g,((Chg.put m b _).get h.oa (by simpa using h.ab)).trans h.ga,jL h.ob,cG h.o,cG h.oa,cG h.ob,h.n,h.na,h.nb,h.pa,h.pb,h.ab,
  h.d.chg (Chg.put m b _) fun i hi q=>h.bd (List.mem_singleton.1 q▸hi),h.pd,h.ad,h.bd,h.put b _ (by simp[ft])⟩
theorem WK.setD (h:WK B m p a b v s) (hO:cC B m' v' 2 (s'.d.map dC)) (hC:Chg (ids v) m m') (hF:∀j∈ids v',j∈ids v∨¬aM m j) (hs:s'=⟨s.t,s'.d,s.b⟩):WK B (m'.put p (.cells true [.map a,v',.map b])) p a b v' s':=by
 have n1:∀j,aM m j->j∉ids v->j∉ids v':=fun j ho hj q=>(hF j q).elim hj fun q=>q ho
 have e1:s'.t=s.t:=by rw[hs]
 have e2:s'.b=s.b:=by rw[hs]
 refine ⟨jL (hC.old h.o), ?_, ?_,cG (hC.old h.o),cG (hC.old h.oa),cG (hC.old h.ob),h.n,h.na,h.nb,h.pa,h.pb,h.ab, ?_,n1 _ h.o h.pd,n1 _ h.oa h.ad,n1 _ h.ob h.bd, ?_⟩
 ·rw[e1];exact ((Chg.put m' p _).get (hC.old h.oa) (by simpa using h.pa.symm)).trans ((hC.get h.oa h.ad).trans h.ga)
 ·rw[e2];exact ((Chg.put m' p _).get (hC.old h.ob) (by simpa using h.pb.symm)).trans ((hC.get h.ob h.bd).trans h.gb)
 ·exact hO.chg (Chg.put m' p _) fun i hi q=>n1 _ h.o h.pd (List.mem_singleton.1 q▸hi)
 ·refine (h.c.trans hC fun i hi q=>Gh q (h.d.new i hi)).trans (Chg.put m' p _) fun i hi q=> ?_
  have:=List.mem_singleton.1 hi;subst this;exact Gh q h.n
theorem WK.evD (h:WK B m p a b v s) {x:NO} (hC:Chg (ids v) m m') (hF:∀j∈ids v',j∈ids v∨¬aM m j):EvF (ft p a b v) (ft p a b v') m (m'.put p x):=by
 refine ⟨(hC.weak (T:=ft p a b v) fun i hi _=>by simp[ft,hi]).trans (Chg.put m' p x) fun i hi _=> ?_,fun j hj=> ?_⟩
 ·have:=List.mem_singleton.1 hi;subst this;simp[ft]
 ·simp only[ft,List.mem_cons] at hj ⊢
  rcases hj with rfl|rfl|rfl|hj
  ·exact Or.inl (Or.inl rfl)
  ·exact Or.inl (Or.inr (Or.inl rfl))
  ·exact Or.inl (Or.inr (Or.inr (Or.inl rfl)))
  ·exact (hF j hj).imp (fun q=>Or.inr (Or.inr (Or.inr q))) fun q=>q
end
end OD
open Go Nm Go.Proofs
namespace OD
section
variable {B m m' M:NH} {p a b:D4} {v v':NV} {s s':Wk}
theorem Br {a b:Int} (h0:0<=a) (h1:a<9223372036854775808) (hb:0<b):eC .num .quo (ii a) (ii b)=some (ii (a / b)):=by
 obtain ⟨n,rfl⟩:=Int.eq_ofNat_of_zero_le h0
 obtain ⟨k,rfl⟩:=Int.eq_ofNat_of_zero_le (show 0<=b by omega)
 obtain ⟨k,rfl⟩:∃i,k=i+1:=⟨k - 1,by omega⟩
 refine (nu rfl).trans ?_
 rw[←Int.natCast_ediv]
 have hd:n / (k+1)<=n:=Nat.div_le_self _ _
 show bz .i64 (bM .i64 (.ofNat (n / (k+1))))=_
 generalize n / (k+1)=z at hd ⊢
 rw[Nm.wrap_small (by show -9223372036854775808<=(z:Int);omega) (by show (z:Int)<9223372036854775808;omega),aK]
 rfl
theorem Bg (m:NH) (z:Int) (hz:z<9223372036854775808):∃m',dV Try.prog S0 23 [ii z] m (ii (oP z)) m'/\Chg [] m m':=by
 refine WF.ex1 fun K hK=> ?_
 refine WF.of_wpG (fun _=>rfl) sE (L:= [(.e,ii z)]) rfl ?_
 unfold B2
 by_cases h:z<4096
 ·have e:oP z=-1:=Gj h
  simp (config:={maxSteps:=1000000}) (disch:=first|assumption|omega|(apply aC;omega)|(apply ao;assumption)|(simp only[cd]<;>omega)) only[go_sem,seval]
  rw[e] at hK
  exact hK _ (eV rfl)
 ·have hq:=Br (a:=z - 4096) (b:=64) (by omega) (by omega) (by omega)
  have e:oP z=(z - 4096) / 64:=Gi h
  simp (config:={maxSteps:=1000000}) (disch:=first|assumption|omega|(apply aC;omega)|(apply ao;assumption)|(simp only[cd]<;>omega)) only[go_sem,seval,hq]
  rw[e] at hK
  exact hK _ (eV rfl)
theorem nZ (h:WK B m p a b v s) (c:Int) (hl:s.d.length<=1000000):∃m',dV Try.prog S0 13 [.ptr p 0,ii c] m (.tup []) m'/\∃v',WK B m' p a b v' (dT c s)/\EvF (ft p a b v) (ft p a b v') m m':=by
 refine WF.ex1 fun K hK=> ?_
 refine WF.of_wpG (fun _=>rfl) sx (L:= [(.a .e,ii c),(.e,.ptr p 0)]) rfl ?_
 unfold Cb
 have hg:=h.g
 have ho:=h.o
 have ga:=h.ga
 have oa:=h.oa
 cases hf:iP c s.t with
 |none=>
  simp (config:={maxSteps:=1000000}) (disch:=first|assumption|omega|(apply aC;omega)|(apply ao;assumption)|(simp only[cd]<;>omega)) only[go_sem,seval,hg,ga,oo c hf]
  have e:dT c s=s:=by unfold dT;rw[hf]
  rw[e] at hK
  exact hK _ ⟨v,h.grow0 (eV rfl),EvF.grow (eV rfl)⟩
 |some t=>
  have e:dT c s=⟨del c s.t,s.d++ [(t.p,c)],s.b⟩:=by unfold dT;rw[hf]
  have hs1:=h.d.sl.same (n:=3)
  simp (config:={maxSteps:=1000000}) (disch:=first|assumption|omega|(apply aC;omega)|(apply ao;assumption)|(simp only[cd]<;>omega)) only[go_sem,seval,hg,ga,fO c hf]
  generalize hM:hp _ 2 m=M
  have hC:Chg [] m M:=fJ hM rfl
  have gx:M.get (na m 1)=some (.cells true [ii t.p,ii c]):=eZ hM
  have g0:M.get (na m 0)=some (.cells true [ii t.e.k,ii t.e.c,ii t.e.a,iu t.e.v,ii t.p,.bool t.o]):=eZ hM
  have o0:aM M (na m 0):=eY hM (by omega)
  have ox:aM M (na m 1):=eY hM (by omega)
  have h1:=h.grow0 hC
  have n0:na m 0∉ids v:=fun q=>bJ (h.d.sl.old _ q)
  refine oK h1.d gx ox rfl (fun i hi=>h1.c.old hi) (by simp;omega) (by simp;omega) ?_
  intro v2 M2 hs2 hC2 hF2
  have hg2:=(hC2.get h1.o h1.pd).trans h1.g
  have ho2:=hC2.old h1.o
  have hs2o:=hs2.sl.one
  have gx2:=(hC2.get o0 n0).trans g0
  have w2:=h1.setD (s':=⟨s.t,s.d++ [(t.p,c)],s.b⟩) (by simpa using hs2) hC2 hF2 rfl
  have ga2:=(hC2.get h1.oa h1.ad).trans h1.ga
  have oa2:=hC2.old h1.oa
  have ne:=h.pa
  have ne':=h.pa.symm
  simp (config:={maxSteps:=1000000}) (disch:=first|assumption|omega|(apply aC;omega)|(apply ao;assumption)|(simp only[cd]<;>omega)) only[go_sem,seval,hg2,hs1,gx2,hC2.old o0,hs2o,Ep,C3,Cc,ga2]
  refine hK _ ⟨v2, ?_, ?_⟩
  ·rw[e]
   have:=w2.setT (del c s.t)
   rwa [←gF ho2,lv oa2] at this
  ·have:=(h1.evD (x:= .cells true [.map a,v2,.map b]) hC2 hF2).trans (w2.putE a (.map (cp uo (del c s.t))) (by simp[ft]))
   rw[←gF ho2,lv oa2] at this
   exact this.pre hC
end
end OD
open Go Nm Go.Proofs
namespace OD
section
variable {B m m' M:NH} {p a b:D4} {v v':NV} {s s':Wk}
theorem Cl (h:WK B m p a b v s) (e:Ev):∃m',dV Try.prog S0 19 [.ptr p 0,.agg e.l] m (.bool (rS s e)) m'/\Chg [] m m':=by
 refine WF.ex1 fun K hK=> ?_
 refine WF.of_wpG (fun _=>rfl) sC (L:= [(.a .e,.agg e.l),(.e,.ptr p 0)]) rfl ?_
 unfold Cg
 have hg:=h.g
 have ho:=h.o
 have ga:=h.ga
 have oa:=h.oa
 unfold rS at hK
 cases hf:iP e.c s.t with
 |none=>
  rw[hf] at hK
  simp (config:={maxSteps:=1000000}) (disch:=first|assumption|omega|(apply aC;omega)|(apply ao;assumption)|(simp only[cd]<;>omega)) only[go_sem,seval,hg,ga,oo e.c hf]
  exact hK _ (eV rfl)
 |some t=>
  rw[hf] at hK
  simp only at hK
  cases ht:t.o with
  |false=>
   simp (config:={maxSteps:=1000000}) (disch:=first|assumption|omega|(apply aC;omega)|(apply ao;assumption)|(simp only[cd]<;>omega)) only[go_sem,seval,hg,ga,fO e.c hf,ht]
   rw[ht] at hK
   exact hK _ (eV rfl)
  |true=>
   by_cases hq:t.e.a=e.a
   ·rw[ht,Gl hq] at hK
    by_cases h2:e.k=2
    ·rw[Gl h2] at hK
     simp (config:={maxSteps:=1000000}) (disch:=first|assumption|omega|(apply aC;omega)|(apply ao;assumption)|(simp only[cd]<;>omega)) only[go_sem,seval,hg,ga,fO e.c hf,ht,hq,h2]
     exact hK _ (eV rfl)
    ·rw[Gk h2] at hK
     simp (config:={maxSteps:=1000000}) (disch:=first|assumption|omega|(apply aC;omega)|(apply ao;assumption)|(simp only[cd]<;>omega)) only[go_sem,seval,hg,ga,fO e.c hf,ht,hq,h2]
     exact hK _ (eV rfl)
   ·rw[ht,Gk hq] at hK
    simp (config:={maxSteps:=1000000}) (disch:=first|assumption|omega|(apply aC;omega)|(apply ao;assumption)|(simp only[cd]<;>omega)) only[go_sem,seval,hg,ga,fO e.c hf,ht,hq]
    exact hK _ (eV rfl)
theorem B4 (h:WK B m p a b v s) (t:Tr) (hp:0<=t.p) (ha:t.e.a<9223372036854775808):∃m',dV Try.prog S0 15 [.ptr p 0,uo t] m (.bool (ma s t)) m'/\Chg [] m m':=by
 refine WF.ex1 fun K hK=> ?_
 refine WF.of_wpG (fun _=>rfl) rD (L:= [(.a .e,uo t),(.e,.ptr p 0)]) rfl ?_
 unfold BG
 have hg:=h.g
 have ho:=h.o
 have gb:=h.gb
 have ob:=h.ob
 unfold ma at hK
 by_cases hk:t.e.k=3
 ·rw[Gl hk] at hK
  simp (config:={maxSteps:=1000000}) (disch:=first|assumption|omega|(apply aC;omega)|(apply ao;assumption)|(simp only[cd]<;>omega)) only[go_sem,seval,hg,gb,hk]
  generalize hM:Nm.hp _ 1 m=M
  have hC:Chg [] m M:=fJ hM rfl
  have g0:M.get (Nm.na m 0)=some (.cells true [ii 3,ii t.e.c,ii t.e.a,iu t.e.v,ii t.p,.bool t.o]):=eZ hM
  have o0:aM M (Nm.na m 0):=eY hM (by omega)
  obtain ⟨m1,r1,hC1⟩:=Bg M t.e.a ha
  have h1:=(h.grow0 hC).grow0 hC1
  have hg1:=h1.g
  have ho1:=h1.o
  have gb1:=h1.gb
  have ob1:=h1.ob
  have g01:=(hC1.get o0 (by simp)).trans g0
  have o01:=hC1.old o0
  have hCC:Chg [] m m1:=hC.trans hC1 (by simp)
  cases hf:iP (oP t.e.a) s.b with
  |none=>
   rw[hf] at hK
   have hd:decide ((0:Int)>t.p)=false:=Gk (by omega)
   simp (config:={maxSteps:=1000000}) (disch:=first|assumption|omega|(apply aC;omega)|(apply ao;assumption)|(simp only[cd]<;>omega)) only[go_sem,seval,r1.wf',hg1,gb1,g01,rX _ hf,hd]
   exact ⟨dc (v:= .map b) trivial,hK _ hCC⟩
  |some x=>
   rw[hf] at hK
   simp (config:={maxSteps:=1000000}) (disch:=first|assumption|omega|(apply aC;omega)|(apply ao;assumption)|(simp only[cd]<;>omega)) only[go_sem,seval,r1.wf',hg1,gb1,g01,sA _ hf]
   exact ⟨dc (v:= .map b) trivial,hK _ hCC⟩
 ·rw[Gk hk] at hK
  simp (config:={maxSteps:=1000000}) (disch:=first|assumption|omega|(apply aC;omega)|(apply ao;assumption)|(simp only[cd]<;>omega)) only[go_sem,seval,hg,gb,hk]
  exact hK _ (eV rfl)
end
end OD
open Go Nm Go.Proofs
namespace OD
theorem rI (B m:NH) (hc:Chg [] B m):∃p m',dV Try.prog S0 9 [] m (.ptr p 0) m'/\∃a b v,WK B m' p a b v w0/\(∀i∈ft p a b v,¬aM m i)/\Chg [] m m':=by
 refine ⟨na m 2, ?_⟩
 refine WF.ex1 fun K hK=> ?_
 refine WF.of_wpG (fun _=>rfl) uU (L:= []) rfl ?_
 unfold FH
 simp (config:={maxSteps:=1000000}) (disch:=first|assumption|omega|(apply aC;omega)|(apply ao;assumption)|(simp only[cd]<;>omega)) only[go_sem,seval]
 generalize hM:hp _ 3 m=M
 have hC:Chg [] m M:=fJ hM rfl
 have nB:∀j,¬aM B (na m j):=fun j ho=>bJ (hc.old ho)
 refine hK _ ⟨na m 0,na m 1,.nils,⟨eZ hM,eZ hM,eZ hM,eY hM (by omega),eY hM (by omega),eY hM (by omega),nB _,nB _,nB _,by simp[pk],by simp[pk],by simp[pk],cC.nil,by simp[ids],by simp[ids],by simp[ids],hc.trans hC (by simp)⟩,fun i hi=> ?_,hC⟩
 simp only[ft,ids,List.mem_cons,List.not_mem_nil,or_false] at hi
 rcases hi with rfl|rfl|rfl<;>exact bJ
section
variable {B m m' M:NH} {p a b:D4} {v v':NV} {s s':Wk}
theorem zL (h:WK B m p a b v s) (i:Int) (e:Ev) (hl:s.d.length<=1000000):∃m',dV Try.prog S0 12 [.ptr p 0,ii i,.agg e.l] m (.tup []) m'/\∃v',WK B m' p a b v' (km i e s)/\EvF (ft p a b v) (ft p a b v') m m':=by
 refine WF.ex1 fun K hK=> ?_
 refine WF.of_wpG (fun _=>rfl) sf (L:= [(.b .e,.agg e.l),(.a .e,ii i),(.e,.ptr p 0)]) rfl ?_
 unfold AE
 simp (config:={maxSteps:=1000000}) (disch:=first|assumption|omega|(apply aC;omega)|(apply ao;assumption)|(simp only[cd]<;>omega)) only[go_sem,seval]
 generalize hM:hp _ 1 m=M
 have hC:Chg [] m M:=fJ hM rfl
 have g0:M.get (na m 0)=some (.cells true e.l):=eZ hM
 have o0:aM M (na m 0):=eY hM (by omega)
 obtain ⟨m1,r1,hC1⟩:=Cl (h.grow0 hC) e
 have h1:=(h.grow0 hC).grow0 hC1
 have g1:=(hC1.get o0 (by simp)).trans g0
 have o1:=hC1.old o0
 have n0:na m 0∉ft p a b v:=fun q=>bJ (h.old _ q).1
 cases hgo:rS s e with
 |true=>
  rw[hgo] at r1
  have g2:=g1
  have hg2:=h1.g
  have ho2:=h1.o
  have ga2:=h1.ga
  have oa2:=h1.oa
  have hu:=fun m l=>@vt Tr uo e.c m a l ⟨e,i,decide (e.k=2)⟩
  simp (config:={maxSteps:=1000000}) (disch:=first|assumption|omega|(apply aC;omega)|(apply ao;assumption)|(simp only[cd]<;>omega)) only[go_sem,seval,r1.wf',g1,g2,hg2,ga2,hu]
  refine hK _ ⟨v, ?_, ?_⟩
  ·unfold km;rw[hgo];exact h1.setT _
  ·exact (h1.putE a _ (by simp[ft])).pre (hC.trans hC1 (by simp))
 |false=>
  rw[hgo] at r1
  obtain ⟨m2,r2,v2,h2,hE2⟩:=nZ h1 e.c hl
  have g2:=(hE2.get o1 n0).trans g1
  have o2:=hE2.c.old o1
  have hg2:=h2.g
  have ho2:=h2.o
  have ga2:=h2.ga
  have oa2:=h2.oa
  have hu:=fun m l=>@vt Tr uo e.c m a l ⟨e,i,decide (e.k=2)⟩
  simp (config:={maxSteps:=1000000}) (disch:=first|assumption|omega|(apply aC;omega)|(apply ao;assumption)|(simp only[cd]<;>omega)) only[go_sem,seval,r1.wf',r2.wf',g1,g2,hg2,ga2,hu]
  refine hK _ ⟨v2, ?_, ?_⟩
  ·unfold km;rw[hgo];exact h2.setT _
  ·exact (hE2.trans (h2.putE a _ (by simp[ft]))).pre (hC.trans hC1 (by simp))
structure KeyOK (s:Wk):Prop where
 k:∀x∈s.t,-9223372036854775808<=x.1/\x.1<=9223372036854775807
 l:s.t.length<=1000000
theorem tL:∀l:List (Int×Tr),(∀x∈l,-9223372036854775808<=x.1/\x.1<=9223372036854775807)->kw (cp uo l)=some (l.map Prod.fst):=by
 intro l
 induction l with
 |nil=>intro _;rfl
 |cons x l ih=>
  intro h
  obtain ⟨h1,h2⟩:=h x (List.mem_cons_self ..)
  show cond (Nm.eT (.negSucc 9223372036854775807) x.1) (cond (Nm.eT x.1 (.ofNat 9223372036854775807)) (match kw (cp uo l) with|some r=>some (x.1::r)|none=>none) none) none=_
  rw[a7,a7,Gl (show Int.negSucc 9223372036854775807<=x.1 from h1),Gl (show x.1<=.ofNat 9223372036854775807 from h2),ih fun y hy=>h y (List.mem_cons_of_mem _ hy)]
  rfl
abbrev fi (l:List Int):List (List NV):=l.map fun z=> [ii z]
theorem tn:∀l:List Int,(fi l).flatten=jD l:=by
 intro l
 induction l with
 |nil=>rfl
 |cons a l ih=>show ii a::(fi l).flatten=ii a::jD l;rw[ih]
theorem iX (s:Wk):(dQ s).length=s.t.length:=by unfold dQ;rw[(eu _).length_eq];simp
theorem wg (m:NH) (f:D4) (g:m.get f=some (.iter [(.map a,.tup [])] none)) (ga:m.get a=some (.map (cp uo s.t))) (hk:KeyOK s):∃v m',dV Try.prog S0 21 [.fn 30 [.ptr f 0]] m v m'/\Sl m' v 1 (fi (dQ s))/\Chg [] m m'/\∀j∈ids v,¬aM m j:=by
 have e:S0 21 [.fn 30 [.ptr f 0]] m=(match dQ s with| []=>some (.nils,m)|x::r=>some (.slc m.next 0 s.t.length 1 s.t.length,m.add (.cells false (jD (x::r))))):=by
  show gg 30 [.fn 30 [.ptr f 0]] m=_
  unfold gg
  simp only[g,ga,tL _ hk.k,aX]
  rw[show Nat.ble (cp uo s.t).length 1000000=true from Nat.ble_eq_true_of_le (by simpa using hk.l)]
  show (match dQ s with| []=>_|a::r=>_)=_
  cases dQ s with
  |nil=>rfl
  |cons x r=>simp only;rw[NH.new_eq];simp
 have hlen:=iX s
 cases hw:dQ s with
 |nil=>
  rw[hw] at e
  exact ⟨_,_,dV.keptM e,Sl.nil,Chg.refl _,by simp[ids]⟩
 |cons x r=>
  rw[hw] at e hlen
  refine ⟨_,_,dV.keptM e, ?_,Chg.add _ _,fun j hj ho=>ho.next_ne (List.mem_singleton.1 hj)⟩
  refine ⟨fun y hy=>by simp at hy;rcases hy with rfl|⟨z,-,rfl⟩<;>rfl,Or.inr ?_⟩
  refine ⟨m.next,0,s.t.length,false,jD (x::r), ?_, ?_,fe _ _, ?_, ?_⟩
  ·rw[←hlen];simp
  ·rw[←nF,←jI];exact m7
  ·simp[jD]
  ·rw[tn,List.drop_zero,List.take_of_length_le (by simp[jD])]
theorem vQ (m:NH) (vs:NV) (hone:cellsOf vs=some [vs]):dV Try.prog S0 20 [vs] m (.fn 27 [.ptr (na m 0) 0]) (hp [(.n 0,.cells true [vs])] 1 m):=by
 obtain ⟨v,m',hr,rfl,rfl⟩:∃v m',dV Try.prog S0 20 [vs] m v m'/\v= .fn 27 [.ptr (na m 0) 0]/\m'=hp [(.n 0,.cells true [vs])] 1 m:=by
  refine WF.ex fun K hK=> ?_
  refine WF.of_wpG (fun _=>rfl) sD (L:= [(.e,vs)]) rfl ?_
  unfold Bw
  simp (config:={maxSteps:=1000000}) (disch:=first|assumption|omega|(apply aC;omega)|(apply ao;assumption)|(simp only[cd]<;>omega)) only[go_sem,seval,hone]
  exact hK _ _ ⟨rfl,rfl⟩
 exact hr
theorem uS (h:WK B m p a b v s) (hk:KeyOK s):∃c m',dV Try.prog S0 14 [.ptr p 0] m (.fn 27 [.ptr c 0]) m'/\∃vs,m'.get c=some (.cells true [vs])/\aM m' c/\¬aM m c/\Sl m' vs 1 (fi (dQ s))/\Chg [] m m'/\∀j∈ids vs,¬aM m j:=by
 have hg:=h.g
 have ho:=h.o
 have ga:=h.ga
 have oa:=h.oa
 have e1:S0 22 [.map a] m=some (.fn 30 [.ptr m.next 0],m.add (.iter [(.map a,.tup [])] none)):=by
  show me 30 [.map a] m=_
  unfold me
  simp only[NH.new_eq]
 have r1:=dV.keptM (P:=Try.prog) e1
 have hC1:Chg [] m (m.add (.iter [(.map a,.tup [])] none)):=Chg.add _ _
 have gf:(m.add (.iter [(.map a,.tup [])] none)).get m.next=some (.iter [(.map a,.tup [])] none):=by rw[←nF,←jI];exact m7
 obtain ⟨vs,m2,r2,hv,hC2,hn⟩:=wg (s:=s) _ _ gf ((hC1.get oa (by simp)).trans ga) hk
 refine ⟨na m2 0, ?_⟩
 refine WF.ex1 fun K hK=> ?_
 refine WF.of_wpG (fun _=>rfl) sB (L:= [(.e,.ptr p 0)]) rfl ?_
 unfold Bc
 have hone:=hv.one
 simp (config:={maxSteps:=1000000}) (disch:=first|assumption|omega|(apply aC;omega)|(apply ao;assumption)|(simp only[cd]<;>omega)) only[go_sem,seval,hg,r1.wf',r2.wf',(vQ m2 vs hone).wf',aQ]
 generalize hM:hp _ 1 m2=M
 have hC:Chg [] m2 M:=fJ hM rfl
 have hC0:=(hC1.trans hC2 (by simp))
 exact hK _ ⟨vs,eZ hM,eY hM (by omega),fun q=>bJ (hC0.old q),hv.grew hC,hC0.trans hC (by simp),fun j hj q=>hn j hj (hC1.old q)⟩
end
end OD
open Go Nm Go.Proofs
namespace OD
theorem Ba {m:NH} {q c:D4} {w:Bool} {vs:NV} {C:List Int} {I:Nat->NH->Prop} (hC:C.length<=1000000) (hf:∀j M,I j M->M.get c=some (.cells w [vs])/\aM M c/\Sl M vs 1 (fi C))
 (h0:I 0 m) (hY:∀j z M,C[j]? =some z->I j M->∃M',kM Try.prog S0 q [ii z] M (.bool true) M'/\I (j+1) M'):
 ∃v m',dV Try.prog S0 27 [.yld q,.ptr c 0] m v m'/\I C.length m':=by
 refine WF.ex fun K hK=> ?_
 refine WF.of_wpG (fun _=>rfl) rU (L:= [(.a .e,.ptr c 0),(.e,.yld q)]) rfl ?_
 unfold AZ
 obtain ⟨g,o,hv⟩:=hf 0 m h0
 have hlen:=hv.len
 simp only[List.length_map] at hlen
 simp (config:={maxSteps:=1000000}) (disch:=first|assumption|omega|(apply aC;omega)|(apply ao;assumption)|(simp only[cd]<;>omega)) only[go_sem,seval,g,hlen,aQ]
 refine W.loop (fun k d=>∃t M i,d=⟨t, [],none,M⟩/\NT.get D4.e t=some (.yld q)/\NT.get D4.e.a.a t=some vs/\NT.get D4.e.a.b t=some (ii (C.length:Nat))/\NT.get D4.e.a.c t=some (ii (i:Nat))/\i+k=C.length/\I i M) ?_ C.length _ ⟨_,m,0,rfl,by exact gq rfl,by exact gq rfl,by exact gq rfl,by exact gq rfl,by omega,h0⟩
 rintro k d ⟨t,M,i,rfl,g1,g2,g3,g4,hik,hI⟩
 apply bO
 unfold rV
 change wp _ _ _ _ ⟨ap [] t, [],none,M⟩ _
 by_cases hi:i<C.length
 ·obtain ⟨-,-,hv⟩:=hf i M hI
  obtain ⟨id,off,w',cc,a1,a2,a3,a4,a5⟩:=hv.at i (by simpa using hi)
  have c0:cc[off]? =some (ii C[i]):=by
   have:=jN a5 0 (by omega)
   simpa using this
  obtain ⟨M',hy,hI'⟩:=hY i C[i] M (by simp[hi]) hI
  simp (config:={maxSteps:=1000000}) (disch:=first|assumption|omega|(apply aC;omega)|(apply ao;assumption)|(simp only[cd]<;>omega)) only[go_sem,seval,g1,g2,g3,g4,a1,a2,c0,hy.wy,aQ]
  refine ⟨k - 1,by omega,_,M',i+1,rfl,by exact gq g1,by exact gq g2,by exact gq g3,by exact gq rfl,by omega,hI'⟩
 ·have e:i=C.length:=by omega
  subst e
  simp (config:={maxSteps:=1000000}) (disch:=first|assumption|omega|(apply aC;omega)|(apply ao;assumption)|(simp only[cd]<;>omega)) only[go_sem,seval,g1,g2,g3,g4]
  exact hK _ _ hI
section
variable {B m m' M:NH} {p a b:D4} {v v':NV} {s s':Wk}
theorem Fq (h:WK B M p a b v s) {q x:D4} {t:Tm} (h1:NT.get D4.e.c t=some (.ptr x 0)) (gx:M.get x=some (.cells true [.ptr p 0])) (ox:aM M x) (hq:M.get q=some (.loop 0 .none t [D4.e.b.c.c] eO eI)) (oq:aM M q) (nq:q∉ft p a b v) (qx:x≠q) (nB:¬aM B q) (c:Int) (hl:s.d.length<=1000000):
 ∃M',kM Try.prog S0 q [ii c] M (.bool true) M'/\∃v',WK B M' p a b v' (dT c s)/\EvF (q::ft p a b v) (q::ft p a b v') M M'/\q∉ft p a b v'/\M'.get q=some (.loop 0 .none t [D4.e.b.c.c] eO eI):=by
 suffices ∃w M',kM Try.prog S0 q [ii c] M w M'/\w= .bool true/\∃v',WK B M' p a b v' (dT c s)/\EvF (q::ft p a b v) (q::ft p a b v') M M'/\q∉ft p a b v'/\M'.get q=some (.loop 0 .none t [D4.e.b.c.c] eO eI) by
  obtain ⟨w,M',h,rfl,h'⟩:=this;exact ⟨M',h,h'⟩
 refine WY.ex fun K hK=> ?_
 refine WY.of_wp hq rfl eO.eq_1 eI.eq_1 ?_
 change wp _ _ _ _ ⟨ap [(D4.e.b.c.c,ii c)] t, [],none,hp [] 0 M⟩ _
 have lp:∀{j:Nat} {T:List D4} {M M':NH},aM M q->hp [(.o q,.loop j .none t [D4.e.b.c.c] eO eI)] 0 M=M'->Chg [q] M M'/\M'.get q=some (.loop j .none t [D4.e.b.c.c] eO eI):=fun ho e=>⟨fJ e rfl,DJ ho e⟩
 simp (config:={maxSteps:=1000000}) (disch:=first|assumption|omega|(apply aC;omega)|(apply ao;assumption)|(simp only[cd]<;>omega)) only[go_sem,seval,h1,gx,hq]
 generalize hM:hp _ 0 M=M1
 obtain ⟨hC,gq1⟩:=lp (T:= []) oq hM
 have hw:=h.grow hC (fun i hi e=>nq (List.mem_singleton.1 e▸hi)) fun i hi=>by have:=List.mem_singleton.1 hi;subst this;exact nB
 obtain ⟨m2,r2,v2,h2,hE2⟩:=nZ hw c hl
 have oq1:=hC.old oq
 have gq2:=(hE2.get oq1 nq).trans gq1
 have oq2:=hE2.c.old oq1
 simp (config:={maxSteps:=1000000}) (disch:=first|assumption|omega|(apply aC;omega)|(apply ao;assumption)|(simp only[cd]<;>omega)) only[go_sem,seval,r2.wf',gq2]
 rw[←gF oq2]
 generalize hM3:hp _ 0 m2=M3
 obtain ⟨hC3,gq3⟩:=lp (T:= []) oq2 hM3
 have nq2:=hE2.nin oq1 nq
 refine hK _ _ ⟨rfl,v2,h2.grow hC3 (fun i hi e=>nq2 (List.mem_singleton.1 e▸hi)) fun i hi=>by have:=List.mem_singleton.1 hi;subst this;exact nB,⟨?_, ?_⟩,nq2,gq3⟩
 ·refine ((hC.weak (T:=q::ft p a b v) fun i hi _=> ?_).trans hE2.c fun i hi _=>List.mem_cons_of_mem _ hi).trans hC3 fun i hi _=> ?_
  all_goals have:=List.mem_singleton.1 hi;subst this;exact List.mem_cons_self ..
 ·intro j hj
  rcases List.mem_cons.1 hj with rfl|hj
  ·exact Or.inl (List.mem_cons_self ..)
  ·exact (hE2.f j hj).imp (List.mem_cons_of_mem _) fun q ho=>q (hC.old ho)
end
end OD
open Nm
namespace OD
section
variable {α:Type}
theorem oR {c:Int} {t:α}:∀{l:List (Int×α)},iP c l=some t->l.Perm ((c,t)::del c l):=by
 intro l
 induction l with
 |nil=>intro h;cases h
 |cons x l ih=>
  intro h
  unfold iP at h
  unfold del
  split at h
  ·rename_i e
   rw[Gj e]
   cases h
   rw[show x=(c,x.2) by rw[e]]
  ·rename_i e
   rw[Gi e]
   exact ((ih h).cons x).trans (List.Perm.swap ..)
theorem oV (c:Int) (t:α):∀l:List (Int×α),(Ap c t l).Perm ((c,t)::del c l):=by
 intro l
 induction l with
 |nil=>exact List.Perm.refl _
 |cons x l ih=>
  unfold Ap del
  split
  ·exact List.Perm.refl _
  ·exact (ih.cons x).trans (List.Perm.swap ..)
theorem mB (c:Int):∀l:List (Int×α),(del c l).Sublist l:=by
 intro l
 induction l with
 |nil=>exact List.Sublist.refl _
 |cons x l ih=>
  unfold del
  split
  ·exact List.sublist_cons_self ..
  ·exact ih.cons_cons x
end
def pA (s:Wk):List Int:=s.t.map (fun x=>x.2.p)++s.d.map (fun x=>x.1)
def ef (x:Int×Tr):Prop:=(-9223372036854775808<=x.1/\x.1<=9223372036854775807)/\x.2.e.a<9223372036854775808
structure Good (i:Int) (s:Wk):Prop where
 len:((pA s).length:Int)<=i
 nd:(pA s).Nodup
 lt:∀z∈pA s,0<=z/\z<i
 k:∀x∈s.t,ef x
theorem Good.mono {i j:Int} {s:Wk} (h:Good i s) (hj:i<=j):Good j s:=⟨by have:=h.len;omega,h.nd,fun z hz=>by have:=h.lt z hz;omega,h.k⟩
theorem Ax:Good 0 w0:=⟨by simp[pA,w0],by simp[pA,w0],by simp[pA,w0],by simp[w0]⟩
theorem nA (c:Int) (s:Wk):(pA (dT c s)).Perm (pA s):=by
 unfold dT
 cases h:iP c s.t with
 |none=>exact List.Perm.refl _
 |some t=>
  show (((del c s.t).map fun x=>x.2.p)++(s.d++ [(t.p,c)]).map fun x=>x.1).Perm _
  have:=((oR h).map fun x=>x.2.p).append_right (s.d.map fun x=>x.1)
  refine List.Perm.trans ?_ this.symm
  rw[List.map_append,←List.append_assoc]
  exact (List.perm_append_singleton t.p _)
theorem Cr {s:Wk} (c:Int) (h:∀x∈s.t,ef x):∀x∈(dT c s).t,ef x:=by
 unfold dT
 cases hf:iP c s.t with
 |none=>exact h
 |some t=>exact fun x hx=>h x ((mB c s.t).subset hx)
theorem Good.end {i:Int} {s:Wk} (h:Good i s) (c:Int):Good i (dT c s):=
 ⟨by rw[(nA c s).length_eq];exact h.len,(nA c s).nodup_iff.2 h.nd,fun z hz=>h.lt z ((nA c s).mem_iff.1 hz),Cr c h.k⟩
theorem Good.put {i:Int} {s:Wk} (h:Good i s) (e:Ev) (hi:0<=i) (hc:-9223372036854775808<=e.c/\e.c<=9223372036854775807) (ha:e.a<9223372036854775808):Good (i+1) (A4 i e s):=by
 have hp:(pA (A4 i e s)).Perm (i::(((del e.c s.t).map fun x=>x.2.p)++s.d.map fun x=>x.1)):=((oV e.c _ s.t).map fun x=>x.2.p).append_right _
 have hs:(((del e.c s.t).map fun x=>x.2.p)++s.d.map fun x=>x.1).Sublist (pA s):=(((mB e.c s.t).map _).append (List.Sublist.refl _))
 refine ⟨?_,hp.nodup_iff.2 (List.nodup_cons.2 ⟨fun q=> ?_,h.nd.sublist hs⟩),fun z hz=> ?_,fun x hx=> ?_⟩
 ·rw[hp.length_eq];have:=hs.length_le;have:=h.len;simp only[List.length_cons];omega
 ·have:=(h.lt i (hs.subset q)).2;omega
 ·rcases List.mem_cons.1 (hp.mem_iff.1 hz) with rfl|hz
  ·omega
  ·have:=h.lt z (hs.subset hz);omega
 ·rcases List.mem_cons.1 ((oV e.c _ s.t).mem_iff.1 hx) with rfl|hx
  ·exact ⟨hc,ha⟩
  ·exact h.k x ((mB e.c s.t).subset hx)
theorem Good.out {i:Int} {s:Wk} (h:Good i s) (c:Int) (hi:0<=i):Good (i+1) (uw i c s):=by
 have hp:pA (uw i c s)=pA s++ [i]:=by simp[pA,uw]
 refine ⟨?_, ?_, ?_,h.k⟩
 ·rw[hp];have:=h.len;simp;omega
 ·rw[hp];exact List.nodup_append.2 ⟨h.nd,by simp,fun x hx y hy=>by simp at hy;subst hy;have:=(h.lt x hx).2;omega⟩
 ·rw[hp];intro z hz
  rcases List.mem_append.1 hz with hz|hz
  ·have:=h.lt z hz;omega
  ·simp at hz;subst hz;omega
theorem Good.foldl {i:Int} {f:Wk->Int->Wk} (hf:∀s c,Good i s->Good i (f s c)):∀(l:List Int) {s:Wk},Good i s->Good i (l.foldl f s):=by
 intro l
 induction l with
 |nil=>intro s h;exact h
 |cons c l ih=>intro s h;exact ih (hf s c h)
theorem Good.step {i:Int} {s:Wk} (h:Good i s) (c:Int):Good i (cr s c):=by
 unfold cr
 cases iP c s.t with
 |none=>exact h
 |some t=>
  simp only
  split
  ·exact h.end c
  ·exact h
def BH (e:Ev):Prop:=(-9223372036854775808<=e.c/\e.c<=9223372036854775807)/\e.a<9223372036854775808
theorem Good.event {i:Int} {s:Wk} (h:Good i s) {e:Ev} (he:BH e) (hi:0<=i):Good (i+1) (fp i e s):=by
 unfold fp
 have hE:∀c,Good (i+1) (dT c s):=fun c=>(h.end c).mono (by omega)
 split
 ·unfold km
  split
  ·exact h.put e hi he.1 he.2
  ·exact (h.end _).put e hi he.1 he.2
 split
 ·exact (h.end _).out _ hi
 split
 ·exact hE _
 split
 ·exact (Good.foldl (fun s c h=>h.end c) _ h).mono (by omega)
 have h':=h.mono (show i<=i+1 by omega)
 split
 ·exact ⟨h'.len,h'.nd,h'.lt,h'.k⟩
 ·exact h'
theorem fV (z a:Int×Int) (l:List (Int×Int)):g7 z (a::l)=if z.1<=a.1 then z::a::l else a::g7 z l:=by
 have e:g7 z (a::l)=cond (eT z.1 a.1) (z::a::l) (a::g7 z l):=rfl
 rw[e,a7]
 by_cases h:z.1<=a.1<;>simp[h]
theorem j8 (z:Int×Int):∀l:List (Int×Int),(g7 z l).Perm (z::l):=by
 intro l
 induction l with
 |nil=>exact List.Perm.refl _
 |cons a l ih=>
  rw[fV]
  split
  ·exact List.Perm.refl _
  ·exact (List.Perm.cons a ih).trans (List.Perm.swap z a l)
theorem dD:∀l:List (Int×Int),(bp l).Perm l:=by
 intro l
 induction l with
 |nil=>exact List.Perm.refl _
 |cons a l ih=>exact (j8 a (bp l)).trans (List.Perm.cons a ih)
theorem tT {z:Int×Int}:∀{l:List (Int×Int)},l.Pairwise (fun a b=>a.1<b.1)->(∀a∈l,a.1≠z.1)->(g7 z l).Pairwise (fun a b=>a.1<b.1):=by
 intro l
 induction l with
 |nil=>intro _ _;simp[g7]
 |cons a l ih=>
  intro h hn
  obtain ⟨h1,h2⟩:=List.pairwise_cons.1 h
  have ha:=hn a (List.mem_cons_self ..)
  rw[fV]
  split
  ·rename_i q
   refine List.pairwise_cons.2 ⟨fun y hy=> ?_,h⟩
   rcases List.mem_cons.1 hy with rfl|hy
   ·omega
   ·have:=h1 y hy;omega
  ·rename_i q
   refine List.pairwise_cons.2 ⟨fun y hy=> ?_,ih h2 fun y hy=>hn y (List.mem_cons_of_mem _ hy)⟩
   rcases List.mem_cons.1 ((j8 z l).mem_iff.1 hy) with rfl|hy
   ·omega
   ·exact h1 y hy
theorem qb:∀{l:List (Int×Int)},(l.map fun x=>x.1).Nodup->(bp l).Pairwise (fun a b=>a.1<b.1):=by
 intro l
 induction l with
 |nil=>intro _;exact List.Pairwise.nil
 |cons a l ih=>
  intro h
  obtain ⟨h1,h2⟩:=List.nodup_cons.1 (show (a.1::l.map fun x=>x.1).Nodup from h)
  refine tT (ih h2) fun y hy e=>h1 ?_
  rw[←e]
  exact List.mem_map_of_mem (f:=fun x:Int×Int=>x.1) ((dD l).mem_iff.1 hy)
theorem wW:∀{l:List (Int×Int)},l.Pairwise (fun a b=>a.1<b.1)->dS l=true:=by
 intro l
 induction l with
 |nil=>intro _;rfl
 |cons a l ih=>
  intro h
  obtain ⟨h1,h2⟩:=List.pairwise_cons.1 h
  have e:dS (a::l)=(match (generalizing:=false) l with| []=>true|b::_=>cond (eT b.1 a.1) false (dS l)):=rfl
  rw[e,ih h2]
  cases l with
  |nil=>rfl
  |cons b l=>
   have:=h1 b (List.mem_cons_self ..)
   simp only
   rw[a7,Gk (by omega)];rfl
theorem Good.rises {i:Int} {s:Wk} (h:Good i s):dS (bp s.d)=true:=wW (qb (List.nodup_append.1 h.nd).2.1)
end OD
open Go Nm Go.Proofs
namespace OD
theorem Good.keys {i:Int} {s:Wk} (h:Good i s) (hi:i<=1000000):KeyOK s:=⟨fun x hx=>(h.k x hx).1,by have:=h.len;simp[pA] at this;omega⟩
theorem Good.dlen {i:Int} {s:Wk} (h:Good i s) (hi:i<=1000000):s.d.length<=1000000:=by have:=h.len;simp[pA] at this;omega
section
variable {B m m' M:NH} {p a b:D4} {v v':NV} {s s':Wk} {i:Int}
theorem sv {ps:List D4} {a1 r2:NC} {fx:NOpd} {t:Tm} {dfs:List Dfr} {c:D4} {vs:NV} {C:List Int} {f:Wk->Int->Wk} {ox:D4} (hfx:ρ t fx=some (.fn 27 [.ptr c 0]))
 (h:WK B m p a b v s) (hG:Good i s) (hf:∀s c,Good i s->Good i (f s c)) (hC:C.length<=1000000) (gc:m.get c=some (.cells true [vs])) (oc:aM m c) (hv:Sl m vs 1 (fi C)) (nc:c∉ft p a b v) (nv:∀j∈ids vs,j∉ft p a b v) (gx:m.get ox=some (.cells true [.ptr p 0])) (oox:aM m ox) (nx:ox∉ft p a b v)
 (hr:∀{M:NH} {q:D4} {v:NV} {s:Wk} (z:Int),WK B M p a b v s->Good i s->M.get ox=some (.cells true [.ptr p 0])->aM M ox->M.get q=some (.loop 0 .none t ps a1 r2)->aM M q->q∉ft p a b v->ox≠q->¬aM B q->∃M',kM Try.prog S0 q [ii z] M (.bool true) M'/\∃v',WK B M' p a b v' (f s z)/\EvF (q::ft p a b v) (q::ft p a b v') M M'/\q∉ft p a b v'/\M'.get q=some (.loop 0 .none t ps a1 r2))
 {Q:Out->Dyn->Prop} (hQ:∀v' M',WK B M' p a b v' (C.foldl f s)->Good i (C.foldl f s)->EvF (ft p a b v) (ft p a b v') m M'->M'.get (na m 0)=some (.defd true)->aM M' (na m 0)->na m 0∉ft p a b v'->Q .norm ⟨t,.mark (na m 0)::dfs,none,M'⟩):
 W Try.prog S0 none (.rangeFunc fx ps a1 r2) ⟨t,dfs,none,m⟩ Q:=by
 have key:∀M1,hp [(.n 1,.loop 0 .none t ps a1 r2),(.n 0,.defd true)] 2 m=M1->W Try.prog S0 none (.rangeFunc fx ps a1 r2) ⟨t,dfs,none,m⟩ Q:=by
  intro M1 hM1
  have hC1:Chg [] m M1:=fJ hM1 rfl
  have oq:aM M1 (na m 1):=eY hM1 (by omega)
  have om:aM M1 (na m 0):=eY hM1 (by omega)
  have gq1:M1.get (na m 1)=some (.loop 0 .none t ps a1 r2):=eZ hM1
  have gm:M1.get (na m 0)=some (.defd true):=eZ hM1
  have h1:=h.grow0 hC1
  have nn:∀k,na m k∉ft p a b v:=fun k q=>bJ (h.old _ q).1
  have nB:¬aM B (na m 1):=fun q=>bJ (h.c.old q)
  obtain ⟨w,m2,hr2,v2,k1,k2,k3,k5,k4⟩:=Ba (m:=M1) (q:=na m 1) (c:=c) (w:=true) (vs:=vs) (C:=C)
   (I:=fun j N=>∃v',WK B N p a b v' ((C.take j).foldl f s)/\Good i ((C.take j).foldl f s)/\EvF (na m 1::ft p a b v) (na m 1::ft p a b v') M1 N/\na m 1∉ft p a b v'/\N.get (na m 1)=some (.loop 0 .none t ps a1 r2))
   hC (by
    rintro j N ⟨v',j1,j2,j3,nq,j4⟩
    have nin:∀k,aM m k->k∉ft p a b v->k∉na m 1::ft p a b v:=fun k ho hk q=>(List.mem_cons.1 q).elim (fun e=>bJ (e▸ho)) hk
    exact ⟨(j3.get (hC1.old oc) (nin _ oc nc)).trans ((hC1.get oc (by simp)).trans gc),j3.c.old (hC1.old oc),(hv.grew hC1).chg j3.c fun k hk=>nin k (hv.old k hk) (nv k hk)⟩)
   ⟨v,h1,hG,EvF.refl _,nn 1,gq1⟩ (by
    rintro j z N hj ⟨v',j1,j2,j3,nq,j4⟩
    have nin:∀k,aM m k->k∉ft p a b v->k∉na m 1::ft p a b v:=fun k ho hk q=>(List.mem_cons.1 q).elim (fun e=>bJ (e▸ho)) hk
    obtain ⟨M',y1,v2,y2,y3,y5,y4⟩:=hr (q:=na m 1) z j1 j2 ((j3.get (hC1.old oox) (nin _ oox nx)).trans ((hC1.get oox (by simp)).trans gx)) (j3.c.old (hC1.old oox)) j4 (j3.c.old oq) nq (fun e=>bJ (e▸oox)) nB
    refine ⟨M',y1,v2, ?_, ?_,j3.trans y3,y5,y4⟩
    all_goals rw[List.take_add_one,hj];show _;simp only[Option.toList,List.foldl_append,List.foldl_cons,List.foldl_nil]
    ·exact y2
    ·exact hf _ _ j2)
  rw[List.take_length] at k1 k2
  refine W.rangeN hfx (hM1▸hr2) k4 ?_ (k3.c.old oq)
  have hC3:Chg [na m 1] m2 (hp [(.o (na m 1),.loop 3 .none t ps a1 r2)] 0 m2):=eV rfl
  have n0:na m 0∉na m 1::ft p a b v:=fun q=>(List.mem_cons.1 q).elim (fun e=>by have:=qW e;omega) (nn 0)
  refine hQ v2 _ (k1.grow hC3 (fun j hj e=>k5 (List.mem_singleton.1 e▸hj)) fun j hj=>by have:=List.mem_singleton.1 hj;subst this;exact nB) k2 ⟨?_,fun j hj=> ?_⟩ ((hC3.get (k3.c.old om) (by simp[pk])).trans ((k3.get om n0).trans gm)) (hC3.old (k3.c.old om)) fun q=>k3.nin om n0 (List.mem_cons_of_mem _ q)
  ·refine ((hC1.weak (T:=ft p a b v) (by simp)).trans k3.c fun j hj ho=> ?_).trans hC3 fun j hj ho=> ?_
   ·exact (List.mem_cons.1 hj).elim (fun e=>Gh (e▸ho) bJ) id
   ·exact Gh (List.mem_singleton.1 hj▸ho) bJ
  ·rcases k3.f j (List.mem_cons_of_mem _ hj) with e|e
   ·exact (List.mem_cons.1 e).elim (fun e=>Or.inr (e▸bJ)) Or.inl
   ·exact Or.inr fun ho=>e (hC1.old ho)
 exact key _ rfl
end
end OD
open Go Nm Go.Proofs
namespace OD
section
variable {B m m' M:NH} {p a b:D4} {v v':NV} {s s':Wk} {i:Int}
theorem yO (h:WK B m p a b v s) (hG:Good i s) (hi0:0<=i) (hi:i<=1000000) {e:Ev} (he:BH e):∃m',dV Try.prog S0 10 [.ptr p 0,ii i,.agg e.l] m (.tup []) m'/\∃v',WK B m' p a b v' (fp i e s)/\EvF (ft p a b v) (ft p a b v') m m':=by
 refine WF.ex1 fun K hK=> ?_
 refine WF.of_wpM (fun _=>rfl) rW (L:= [(.b .e,.agg e.l),(.a .e,ii i),(.e,.ptr p 0)]) rfl ?_
 unfold Bp
 simp (config:={maxSteps:=1000000}) (disch:=first|assumption|omega|(apply aC;omega)|(apply ao;assumption)|(simp only[cd]<;>omega)) only[go_sem,seval]
 generalize hM:hp _ 2 m=M
 have hC:Chg [] m M:=fJ hM rfl
 have g0:M.get (na m 0)=some (.cells true [.ptr p 0]):=eZ hM
 have o0:aM M (na m 0):=eY hM (by omega)
 have g1:M.get (na m 1)=some (.cells true e.l):=eZ hM
 have o1:aM M (na m 1):=eY hM (by omega)
 have hd:=hG.dlen hi
 have h1:=h.grow0 hC
 have nn:∀k,na m k∉ft p a b v:=fun k q=>bJ (h.old _ q).1
 unfold fp at hK
 obtain ⟨ek,ec,ea,ev⟩:=e
 by_cases c1:ek=1∨ek=2∨ek=3
 ·rw[Gj c1] at hK
  obtain ⟨m2,r2,v2,h2,hE⟩:=zL h1 i ⟨ek,ec,ea,ev⟩ hd
  rcases c1 with rfl|rfl|rfl
  all_goals
   simp (config:={maxSteps:=1000000}) (disch:=first|assumption|omega|(apply aC;omega)|(apply ao;assumption)|(simp only[cd]<;>omega)) only[go_sem,seval,g0,g1,r2.wf']
   exact hK _ ⟨v2,h2,hE.pre hC⟩
 rw[Gi c1] at hK
 have e1:ek≠1:=fun q=>c1 (Or.inl q)
 have e2:ek≠2:=fun q=>c1 (Or.inr (Or.inl q))
 have e3:ek≠3:=fun q=>c1 (Or.inr (Or.inr q))
 by_cases c2:ek=4
 ·rw[Gj c2] at hK
  subst c2
  obtain ⟨m2,r2,v2,h2,hE⟩:=nZ h1 ec hd
  have g02:=(hE.get o0 (nn 0)).trans g0
  have o02:=hE.c.old o0
  have g12:=(hE.get o1 (nn 1)).trans g1
  have o12:=hE.c.old o1
  have hg2:=h2.g
  have ho2:=h2.o
  have hs1:=h2.d.sl.same (n:=3)
  simp (config:={maxSteps:=1000000}) (disch:=first|assumption|omega|(apply aC;omega)|(apply ao;assumption)|(simp only[cd]<;>omega)) only[go_sem,seval,g0,g1,r2.wf,g02,g12,hg2]
  generalize hM3:hp _ 1 m2=M3
  have hC3:Chg [] m2 M3:=fJ hM3 rfl
  have gx:M3.get (na m2 0)=some (.cells true [ii i,ii ec]):=eZ hM3
  have ox:aM M3 (na m2 0):=eY hM3 (by omega)
  have h3:=h2.grow0 hC3
  have hl2:=hG.end ec
  have hd2:=hl2.dlen hi
  have nv:∀k,aM M k->k∉ft p a b v->k∉ids v2:=fun k ho hk q=>hE.nin ho hk (by simp[ft,q])
  refine oK h3.d gx ox rfl (fun i hi=>h3.c.old hi) (by simp;omega) (by simp;omega) ?_
  intro v4 M4 hs4 hC4 hF4
  have o04:=hC4.old (hC3.old o02)
  have g04:=(hC4.get (hC3.old o02) (nv _ o0 (nn 0))).trans ((hC3.get o02 (by simp)).trans g02)
  have o14:=hC4.old (hC3.old o12)
  have g14:=(hC4.get (hC3.old o12) (nv _ o1 (nn 1))).trans ((hC3.get o12 (by simp)).trans g12)
  have hg4:=(hC4.get h3.o h3.pd).trans h3.g
  have ho4:=hC4.old h3.o
  have w4:=h3.setD (s':=uw i ec (dT ec s)) (by simpa [uw] using hs4) hC4 hF4 rfl
  have E4:=hE.trans ((h3.evD (x:= .cells true [.map a,v4,.map b]) hC4 hF4).pre hC3)
  have one4:=hs4.sl.one
  simp (config:={maxSteps:=1000000}) (disch:=first|assumption|omega|(apply aC;omega)|(apply ao;assumption)|(simp only[cd]<;>omega)) only[go_sem,seval,g04,g14,hg4,one4,hs1]
  rw[gF ho4]
  exact hK _ ⟨v4,w4,E4.pre hC⟩
 rw[Gi c2] at hK
 by_cases c3:ek=6∨ek=10
 ·rw[Gj c3] at hK
  obtain ⟨m2,r2,v2,h2,hE⟩:=nZ h1 ec hd
  rcases c3 with rfl|rfl
  all_goals
   simp (config:={maxSteps:=1000000}) (disch:=first|assumption|omega|(apply aC;omega)|(apply ao;assumption)|(simp only[cd]<;>omega)) only[go_sem,seval,g0,g1,r2.wf']
   exact hK _ ⟨v2,h2,hE.pre hC⟩
 rw[Gi c3] at hK
 have e6:ek≠6:=fun q=>c3 (Or.inl q)
 have e10:ek≠10:=fun q=>c3 (Or.inr q)
 by_cases c4:ek=9
 ·rw[Gj c4] at hK
  subst c4
  obtain ⟨c,m2,r2,vs,gc,oc,nc,hv,hC2,hn⟩:=uS h1 (hG.keys hi)
  have h2:=h1.grow0 hC2
  have o02:=hC2.old o0
  have g02:=(hC2.get o0 (by simp)).trans g0
  have nM:∀k,¬aM M k->k∉ft p a b v:=fun k hk q=>hk (h1.old _ q).1
  simp (config:={maxSteps:=1000000}) (disch:=first|assumption|omega|(apply aC;omega)|(apply ao;assumption)|(simp only[cd]<;>omega)) only[go_sem,seval,g0,g1,r2.wf']
  refine sv (f:=fun s c=>dT c s) (C:=dQ s) (c:=c) (vs:=vs) (ox:=na m 0) (by simp only[go_sem,seval]) h2 hG (fun s c h=>h.end c) (by rw[iX];exact (hG.keys hi).l) gc oc hv (nM _ nc) (fun j hj=>nM j (hn j hj)) g02 o02 (nn 0) ?_ ?_
  ·intro M q v s z k1 k2 k3 k4 k5 k6 k7 k8 k9
   exact Fq k1 (by exact gq rfl) k3 k4 k5 k6 k7 k8 k9 z (k2.dlen hi)
  intro v' M' w' hG' E' gd od nd
  simp (config:={maxSteps:=1000000}) (disch:=first|assumption|omega|(apply aC;omega)|(apply ao;assumption)|(simp only[cd]<;>omega)) only[go_sem,seval,gd]
  have hCd:=Chg.put M' (na m2 0) (.defd false)
  refine hK _ ⟨v',w'.grow hCd (fun j hj e=>nd (List.mem_singleton.1 e▸hj)) (fun j hj q=> ?_), ?_⟩
  ·have:=List.mem_singleton.1 hj;subst this;exact bJ (h2.c.old q)
  ·refine (⟨E'.c.trans hCd fun j hj ho=> ?_,E'.f⟩:EvF (ft p a b v) (ft p a b v') m2 _).pre (hC.trans hC2 (by simp))
   exact Gh (List.mem_singleton.1 hj▸ho) bJ
 rw[Gi c4] at hK
 by_cases c5:ek=7
 ·rw[Gj c5] at hK
  subst c5
  have hg:=h1.g
  have ho:=h1.o
  have gb:=h1.gb
  have ob:=h1.ob
  have hu:=fun m l=>@vt Int FS ea m b l (i+1)
  simp (config:={maxSteps:=1000000}) (disch:=first|assumption|omega|(apply aC;omega)|(apply ao;assumption)|(simp only[cd]<;>omega)) only[go_sem,seval,g0,g1,hg,gb,hu]
  exact hK _ ⟨v,h1.setB _,(h1.putE b _ (by simp[ft])).pre hC⟩
 ·rw[Gi c5] at hK
  simp (config:={maxSteps:=1000000}) (disch:=first|assumption|omega|(apply aC;omega)|(apply ao;assumption)|(simp only[cd]<;>omega)) only[go_sem,seval,g0,g1]
  exact hK _ ⟨v,h1,EvF.grow hC⟩
end
end OD
open Go Nm Go.Proofs
namespace OD
theorem te:∀(l:List (Int×Int)) (r:List NV),hU l.length (cT l++r)=some l:=by
 intro l
 induction l with
 |nil=>intro r;rfl
 |cons a l ih=>
  intro r
  show (match hU l.length (cT l++r) with|some l=>some (a::l)|none=>none)=_
  rw[ih]
theorem sw:∀l:List (Int×Int),(l.map dC).flatten=cT l:=by
 intro l
 induction l with
 |nil=>rfl
 |cons a l ih=>rw[List.map_cons,List.flatten_cons,ih];rfl
theorem B1 {B m:NH} {v:NV} {d:List (Int×Int)} (hd:cC B m v 2 (d.map dC)) (hr:dS (bp d)=true) (hl:d.length<=1000000):∃m',dV Try.prog S0 16 [v,.fn 17 []] m (.tup []) m'/\cC B m' v 2 ((bp d).map dC)/\Chg (ids v) m m':=by
 have hlen:(bp d).length=d.length:=(dD d).length_eq
 rcases hd with ⟨h1,⟨rfl,h2⟩|⟨id,off,kc,c,rfl,h2,h3,h4,h5,h6,h7⟩⟩
 ·have e:d= []:=by simpa using h2
  subst e
  exact ⟨m,dV.keptM (by rfl),cC.nil,(Chg.refl m)⟩
 ·simp only[List.length_map] at h5 h7 ⊢
  by_cases h0:d.length=0
  ·have e:d= []:=List.length_eq_zero_iff.1 h0
   subst e
   refine ⟨m,dV.keptM (by rfl),⟨by simp[bp],Or.inr ⟨id,off,kc,c,rfl,h2,h3,h4, ?_,h6, ?_⟩⟩,(Chg.refl m).weak (by simp)⟩
   ·simpa [bp] using h5
   ·simp[bp]
  ·have e1:c.drop off=cT d++c.drop (off+d.length*2):=by
    have:=(List.take_append_drop (d.length*2) (c.drop off)).symm
    rw[h7,sw,List.drop_drop] at this
    exact this
   have e:S0 16 [.slc id off d.length 2 kc,.fn 17 []] m=some (.tup [],m.put id (.cells true (c.take off++(cT (bp d)++c.drop (off+d.length*2))))):=by
    show cE 17 [.slc id off d.length 2 kc,.fn 17 []] m=_
    unfold cE
    simp only[h3]
    rw[e1,te,show Nat.beq d.length 0=false from by cases hd:d.length with|zero=>exact Gh hd h0|succ n=>rfl,show Nat.ble d.length 1000000=true from Nat.ble_eq_true_of_le hl]
    simp only[hr,NH.set_eq]
    rfl
   refine ⟨_,dV.keptM e, ?_,Chg.put _ _ _⟩
   have q1:(c.take off++(cT (bp d)++c.drop (off+d.length*2))).length=c.length:=by simp[ed,hlen];omega
   refine ⟨fun x hx=>by obtain ⟨y,-,rfl⟩:=List.mem_map.1 hx;rfl,Or.inr ⟨id,off,kc,_,by simp[hlen],h2,jL h4,cG h4, ?_, ?_, ?_⟩⟩
   ·rw[q1];simpa [hlen] using h5
   ·rw[q1];exact h6
   ·rw[sw,List.drop_append_of_le_length (by simp;omega),List.drop_eq_nil_of_le (by simp;omega)]
    rw[List.nil_append,List.take_append_of_le_length (by simp[ed]),List.take_of_length_le (by simp[ed])]
end OD
open Go Nm Go.Proofs
namespace OD
def t0:Tr:=⟨⟨0,0,0,0⟩,0,false⟩
theorem v8 (s:Wk) (z:Int):cr s z=if ma s ((iP z s.t).getD t0) then dT z s else s:=by
 unfold cr
 cases iP z s.t with
 |some t=>rfl
 |none=>simp[ma,t0]
theorem rf {z:Int} {s:Wk}:uz false (.agg [ii 0,ii 0,ii 0,iu 0,ii 0,.bool false]) false (ii z) (cp uo s.t)= .val (uo ((iP z s.t).getD t0)):=by
 cases h:iP z s.t with
 |some t=>exact sA z h
 |none=>exact rX z h
theorem Good.get {i:Int} {s:Wk} (h:Good i s) (z:Int):0<=((iP z s.t).getD t0).p/\((iP z s.t).getD t0).e.a<9223372036854775808:=by
 cases hf:iP z s.t with
 |none=>exact ⟨by simp[t0],by simp[t0]⟩
 |some t=>
  have hm:(z,t)∈s.t:=(oR hf).mem_iff.2 (List.mem_cons_self ..)
  exact ⟨(h.lt t.p (List.mem_append_left _ (List.mem_map_of_mem (f:=fun x:Int×Tr=>x.2.p) hm))).1,(h.k _ hm).2⟩
section
variable {B m m' M:NH} {p a b:D4} {v v':NV} {s s':Wk} {i:Int}
theorem Az (h:WK B M p a b v s) (hG:Good i s) (hi:i<=1000000) {q x:D4} {t:Tm} (h1:NT.get D4.e.a t=some (.ptr x 0)) (gx:M.get x=some (.cells true [.ptr p 0])) (ox:aM M x) (hq:M.get q=some (.loop 0 .none t [D4.e.b.a] dI dL)) (oq:aM M q) (nq:q∉ft p a b v) (qx:x≠q) (nB:¬aM B q) (z:Int):
 ∃M',kM Try.prog S0 q [ii z] M (.bool true) M'/\∃v',WK B M' p a b v' (cr s z)/\EvF (q::ft p a b v) (q::ft p a b v') M M'/\q∉ft p a b v'/\M'.get q=some (.loop 0 .none t [D4.e.b.a] dI dL):=by
 suffices ∃w M',kM Try.prog S0 q [ii z] M w M'/\w= .bool true/\∃v',WK B M' p a b v' (cr s z)/\EvF (q::ft p a b v) (q::ft p a b v') M M'/\q∉ft p a b v'/\M'.get q=some (.loop 0 .none t [D4.e.b.a] dI dL) by
  obtain ⟨w,M',h,rfl,h'⟩:=this;exact ⟨M',h,h'⟩
 refine WY.ex fun K hK=> ?_
 refine WY.of_wp hq rfl dI.eq_1 dL.eq_1 ?_
 change wp _ _ _ _ ⟨ap [(D4.e.b.a,ii z)] t, [],none,hp [] 0 M⟩ _
 have lp:∀{j:Nat} {M M':NH},aM M q->hp [(.o q,.loop j .none t [D4.e.b.a] dI dL)] 0 M=M'->Chg [q] M M'/\M'.get q=some (.loop j .none t [D4.e.b.a] dI dL):=fun ho e=>⟨fJ e rfl,DJ ho e⟩
 have hg:=h.g
 have ho:=h.o
 have ga:=h.ga
 have oa:=h.oa
 have np:p≠q:=fun e=>nq (by simp[ft,e])
 have naq:a≠q:=fun e=>nq (by simp[ft,e])
 simp (config:={maxSteps:=1000000}) (disch:=first|assumption|omega|(apply aC;omega)|(apply ao;assumption)|(simp only[cd]<;>omega)) only[go_sem,seval,h1,gx,hq,hg,ga,rf]
 generalize hM:hp _ 0 M=M1
 obtain ⟨hC,gq1⟩:=lp oq hM
 have oq1:=hC.old oq
 have hw:=h.grow hC (fun i hi e=>nq (List.mem_singleton.1 e▸hi)) fun i hi=>by have:=List.mem_singleton.1 hi;subst this;exact nB
 obtain ⟨e1,e2⟩:=hG.get z
 obtain ⟨m2,r2,hC2⟩:=B4 hw ((iP z s.t).getD t0) e1 e2
 have h2:=hw.grow0 hC2
 have gq2:=(hC2.get oq1 (by simp)).trans gq1
 have oq2:=hC2.old oq1
 have gx1:=(hC.get ox (by simpa using qx)).trans gx
 have ox1:=hC.old ox
 have gx2:=(hC2.get ox1 (by simp)).trans gx1
 have ox2:=hC2.old ox1
 have hg2:=h2.g
 have ho2:=h2.o
 have ga2:=h2.ga
 have oa2:=h2.oa
 have sm:=dc (v:=NV.map a) (n:=3) trivial
 have fin:∀{m3 M3:NH} {v3:NV} {s3:Wk},WK B m3 p a b v3 s3->EvF (ft p a b v) (ft p a b v3) M1 m3->hp [(.o q,.loop 0 .none t [D4.e.b.a] dI dL)] 0 m3=M3->s3=cr s z->K (.bool true) M3:=by
  rintro m3 M3 v3 s3 h3 hE hM3 rfl
  have oq3:=hE.c.old oq1
  obtain ⟨hC3,gq3⟩:=lp oq3 hM3
  have nq3:=hE.nin oq1 nq
  refine hK _ _ ⟨rfl,v3,h3.grow hC3 (fun i hi e=>nq3 (List.mem_singleton.1 e▸hi)) fun i hi=>by have:=List.mem_singleton.1 hi;subst this;exact nB,⟨?_, ?_⟩,nq3,gq3⟩
  ·refine ((hC.weak (T:=q::ft p a b v) fun i hi _=> ?_).trans hE.c fun i hi _=>List.mem_cons_of_mem _ hi).trans hC3 fun i hi _=> ?_
   all_goals have:=List.mem_singleton.1 hi;subst this;exact List.mem_cons_self ..
  ·intro j hj
   rcases List.mem_cons.1 hj with rfl|hj
   ·exact Or.inl (List.mem_cons_self ..)
   ·exact (hE.f j hj).imp (List.mem_cons_of_mem _) fun q ho=>q (hC.old ho)
 have es:=v8 s z
 cases hk:ma s ((iP z s.t).getD t0) with
 |false=>
  rw[hk] at r2 es
  simp (config:={maxSteps:=1000000}) (disch:=first|assumption|omega|(apply aC;omega)|(apply ao;assumption)|(simp only[cd]<;>omega)) only[go_sem,seval,r2.wf',gq2,gx2,hg2,ga2,rf,sm]
  rw[←gF oq2]
  exact fin h2 (EvF.grow hC2) rfl es.symm
 |true=>
  rw[hk] at r2 es
  obtain ⟨m3,r3,v3,h3,hE3⟩:=nZ h2 z (hG.dlen hi)
  have gq3:=(hE3.get oq2 nq).trans gq2
  have oq3:=hE3.c.old oq2
  simp (config:={maxSteps:=1000000}) (disch:=first|assumption|omega|(apply aC;omega)|(apply ao;assumption)|(simp only[cd]<;>omega)) only[go_sem,seval,r2.wf',gq2,gx2,hg2,ga2,rf,sm,h1,r3.wf',gq3]
  rw[←gF oq3]
  exact fin h3 (hE3.pre hC2) rfl es.symm
theorem pE {m:NH} {v:NV} {D:List (Int×Int)} {t:Tm} {dfs:List Dfr} (hv:Sl m v 2 (D.map dC)) (hl:D.length<=1000000) (g1:NT.get D4.e.a.c.a t=some v) (g2:NT.get D4.e.a.c.b t=some (ii (D.length:Nat))) (g3:NT.get D4.e.a.c.c t=some (ii 0)) (g4:NT.get D4.e.f t=some .nils)
 {Q:Out->Dyn->Prop} (hQ:∀t' M vo,NT.get D4.e.f t'=some vo->cC m M vo 1 (fi (D.map Prod.snd))->Chg [] m M->Q (.exit 2) ⟨t',dfs,none,M⟩):W Try.prog S0 none mT.loop ⟨t,dfs,none,m⟩ Q:=by
 refine W.loop (fun k d=>∃t M i vo,d=⟨t,dfs,none,M⟩/\NT.get D4.e.a.c.a t=some v/\NT.get D4.e.a.c.b t=some (ii (D.length:Nat))/\NT.get D4.e.a.c.c t=some (ii (i:Nat))/\NT.get D4.e.f t=some vo/\i+k=D.length/\cC m M vo 1 (fi ((D.take i).map Prod.snd))/\Chg [] m M) ?_ D.length _ ⟨t,m,0,.nils,rfl,g1,g2,g3,g4,by omega,cC.nil,Chg.refl m⟩
 rintro k d ⟨t,M,i,vo,rfl,g1,g2,g3,g4,hik,hO,hC⟩
 apply bO
 unfold mT
 change wp _ _ _ _ ⟨ap [] t,dfs,none,M⟩ _
 by_cases hi:i<D.length
 ·obtain ⟨id,off,w',cc,a1,a2,a3,a4,a5⟩:=(hv.grew hC).at i (by simpa using hi)
  simp only[List.getElem_map] at a5
  rw[←aQ M]
  simp (config:={maxSteps:=1000000}) (disch:=first|assumption|omega|(apply aC;omega)|(apply ao;assumption)|(simp only[cd]<;>omega)) only[go_sem,seval,g1,g2,g3,g4,a1,a2,a5]
  generalize hM1:hp _ 2 M=M1
  have hC1:Chg [] M M1:=fJ hM1 rfl
  have gx:M1.get (na M 1)=some (.cells true [ii D[i].2]):=eZ hM1
  have ox:aM M1 (na M 1):=eY hM1 (by omega)
  have hCC:=hC.trans hC1 (by simp)
  refine oz (hO.chg hC1 (by simp)) gx ox rfl (fun i hi=>hCC.old hi) (by simp;omega) (by simp;omega) ?_
  intro vo2 M2 hO2 hC2
  simp (config:={maxSteps:=1000000}) (disch:=first|assumption|omega|(apply aC;omega)|(apply ao;assumption)|(simp only[cd]<;>omega)) only[go_sem,seval,aQ,g1,g2,g3,g4]
  refine ⟨k - 1,by omega,_,M2,i+1,vo2,rfl,by exact gq g1,by exact gq g2,by exact gq rfl,by exact gq rfl,by omega, ?_,hCC.trans hC2 fun j hj ho=>Gh ho (hO.new j hj)⟩
  rw[List.take_add_one,List.getElem?_eq_getElem hi]
  simp only[Option.toList,List.map_append,List.map_cons,List.map_nil] at hO2 ⊢
  exact hO2
 ·have e:i=D.length:=by omega
  subst e
  simp (config:={maxSteps:=1000000}) (disch:=first|assumption|omega|(apply aC;omega)|(apply ao;assumption)|(simp only[cd]<;>omega)) only[go_sem,seval,g1,g2,g3,g4]
  rw[List.take_length] at hO
  exact hQ _ _ _ (by exact gq g4) hO hC
theorem rY (h:WK B m p a b v s) (hG:Good i s) (hi:i<=1000000):∃vo m',dV Try.prog S0 11 [.ptr p 0] m vo m'/\cC m m' vo 1 (fi (fj s))/\Chg (ft p a b v) m m':=by
 refine WF.ex fun K hK=> ?_
 refine WF.of_wpM (fun _=>rfl) sr (L:= [(.e,.ptr p 0)]) rfl ?_
 unfold BO
 simp (config:={maxSteps:=1000000}) (disch:=first|assumption|omega|(apply aC;omega)|(apply ao;assumption)|(simp only[cd]<;>omega)) only[go_sem,seval]
 generalize hM:hp _ 1 m=M
 have hC:Chg [] m M:=fJ hM rfl
 have g0:M.get (na m 0)=some (.cells true [.ptr p 0]):=eZ hM
 have o0:aM M (na m 0):=eY hM (by omega)
 have h1:=h.grow0 hC
 have n0:na m 0∉ft p a b v:=fun q=>bJ (h.old _ q).1
 obtain ⟨c,m2,r2,vs,gc,oc,nc,hv,hC2,hn⟩:=uS h1 (hG.keys hi)
 have h2:=h1.grow0 hC2
 have o02:=hC2.old o0
 have g02:=(hC2.get o0 (by simp)).trans g0
 have nM:∀k,¬aM M k->k∉ft p a b v:=fun k hk q=>hk (h1.old _ q).1
 simp (config:={maxSteps:=1000000}) (disch:=first|assumption|omega|(apply aC;omega)|(apply ao;assumption)|(simp only[cd]<;>omega)) only[go_sem,seval,g0,r2.wf']
 refine sv (f:=cr) (C:=dQ s) (c:=c) (vs:=vs) (ox:=na m 0) (by simp only[go_sem,seval]) h2 hG (fun s c h=>h.step c) (by rw[iX];exact (hG.keys hi).l) gc oc hv (nM _ nc) (fun j hj=>nM j (hn j hj)) g02 o02 n0 ?_ ?_
 ·intro M q v s z k1 k2 k3 k4 k5 k6 k7 k8 k9
  exact Az k1 k2 hi (by exact gq rfl) k3 k4 k5 k6 k7 k8 k9 z
 intro v' M' w' hG' E' gd od nd
 have o03:=E'.c.old o02
 have g03:=(E'.get o02 n0).trans g02
 have hg3:=w'.g
 have ho3:=w'.o
 obtain ⟨m5,r5,hO5,hC5⟩:=B1 w'.d hG'.rises (hG'.dlen hi)
 have hg5:=(hC5.get w'.o w'.pd).trans w'.g
 have ho5:=hC5.old w'.o
 have g05:=(hC5.get o03 (fun q=>E'.nin o02 n0 (by simp[ft,q]))).trans g03
 have o05:=hC5.old o03
 have gd5:=(hC5.get od (fun q=>nd (by simp[ft,q]))).trans gd
 have od5:=hC5.old od
 have hlen:=hO5.sl.len
 have hl:(bp (List.foldl cr s (dQ s)).d).length=(List.foldl cr s (dQ s)).d.length:=(dD _).length_eq
 simp only[List.length_map,hl] at hlen
 have hone:=hO5.sl.one
 simp (config:={maxSteps:=1000000}) (disch:=first|assumption|omega|(apply aC;omega)|(apply ao;assumption)|(simp only[cd]<;>omega)) only[go_sem,seval,g03,hg3,r5.wf',g05,hg5,hlen,hone]
 refine pE hO5.sl (by rw[hl];exact hG'.dlen hi) (by exact gq rfl) (by rw[hl];exact gq rfl) (by exact gq rfl) (by exact gq rfl) ?_
 intro t6 M6 vo g6 hO6 hC6
 have gd6:=(hC6.get od5 (by simp)).trans gd5
 have od6:=hC6.old od5
 change kU 2 _ _ ⟨ap [] t6,_,none,M6⟩
 simp (config:={maxSteps:=1000000}) (disch:=first|assumption|omega|(apply aC;omega)|(apply ao;assumption)|(simp only[cd]<;>omega)) only[go_sem,seval,g6,gd6]
 have hCd:=Chg.put M6 (na m2 0) (.defd false)
 have hB:∀id,aM m id->aM m5 id:=fun id hi=>hC5.old (E'.c.old (hC2.old (hC.old hi)))
 refine hK _ _ ⟨(hO6.chg hCd fun j hj e=> ?_).back hB, ?_⟩
 ·exact hO6.new j hj (List.mem_singleton.1 e▸od5)
 ·refine ((((hC.trans hC2 (by simp)).weak (T:=ft p a b v) (by simp)).trans E'.c fun j hj _=>hj).trans hC5 fun j hj ho=> ?_).trans ((hC6.weak (T:= [na m2 0]) (by simp)).trans hCd fun j hj _=>hj) fun j hj ho=> ?_
  ·exact (E'.f j (by simp[ft,hj])).elim id fun q=>Gh (hC2.old (hC.old ho)) q
  ·exact Gh (hC2.old (hC.old (List.mem_singleton.1 hj▸ho))) bJ
end
end OD
open Go Nm Go.Proofs
namespace OD
section
variable {P:PE} {S:bA} {k:D4} {L:List (D4×NV)} {t:Tm} {dfs:List Dfr} {ctx:Option NV} {l:List NOper} {K:Dyn->Prop} {B m:NH} {v x:NV} {e bytes:Nat} {C D:List (List NV)}
theorem pv (hv:cC B m v e C) (hx:Sl m x e D) (hB:∀id,aM B id->aM m id) (hr:(C.length+D.length)*bytes<=1099511627776) (hr':C.length+D.length<=1099511627776)
 (h:∀v' m',cC B m' v' e (C++D)->Chg (ids v) m m'->wO P S l ⟨ap ((k,v')::L) t,dfs,ctx,hp [] 0 m'⟩ K):uy P S (some k) (ap L t) dfs ctx m (rO e bytes m v x) l K:=by
 by_cases hD:D= []
 ·subst hD
  rw[hv.sl.appNil hx]
  have:=h v m (by simpa using hv) ((Chg.refl m).weak (by simp))
  rw[aQ] at this
  exact this
 ·obtain ⟨v',m',h1,h2,h3⟩:=hv.app hx hD hB hr hr'
  have:=h v' m' h2 h3
  rw[aQ] at this
  rw[h1];exact this
end
theorem Good.ends {i:Int} {s:Wk} (h:Good i s):Good i (At s):=Good.foldl (fun s c h=>h.step c) _ h
theorem Good.close {i:Int} {s:Wk} (h:Good i s):((fj s).length:Int)<=i:=by
 have:=h.ends.len
 unfold fj
 rw[List.length_map,(dD _).length_eq]
 simp[pA] at this
 omega
theorem FL {m:NH} {v:NV} {l:List Ev} (hv:Sl m v 4 (l.map Ev.l)) (he:∀e∈l,BH e) (hl:l.length<=1000):∃vo m',dV Try.prog S0 7 [v] m vo m'/\cC m m' vo 1 (fi (w8 0 w0 l))/\Chg [] m m'/\(w8 0 w0 l).length<=2000000:=by
 refine WF.ex fun K hK=> ?_
 refine WF.of_wpG (fun _=>rfl) ww (L:= [(.e,v)]) rfl ?_
 unfold FP
 obtain ⟨p,m1,r1,a,b,vd,h1,n1,hC1⟩:=rI m m (Chg.refl m)
 have hlen:=hv.len
 simp only[List.length_map] at hlen
 have hone:=hv.one
 simp (config:={maxSteps:=1000000}) (disch:=first|assumption|omega|(apply aC;omega)|(apply ao;assumption)|(simp only[cd]<;>omega)) only[go_sem,seval,aQ,r1.wf',hlen,hone]
 refine W.loop (fun k d=>∃t M i vo p a b vd s O,d=⟨t, [],none,M⟩/\NT.get D4.e.a.f t=some v/\NT.get D4.e.b.a t=some (ii (l.length:Nat))/\NT.get D4.e.b.b t=some (ii (i:Nat))/\NT.get D4.e.c t=some vo/\NT.get D4.e.f t=some (.ptr p 0)/\i+k=l.length/\WK m M p a b vd s/\Good (i:Nat) s/\cC m M vo 1 (fi O)/\(∀j∈ids vo,j∉ft p a b vd)/\w8 0 w0 l=O++w8 (i:Nat) s (l.drop i)/\O.length<=i*1002) ?_ l.length _
  ⟨_,m1,0,.nils,p,a,b,vd,w0, [],rfl,by exact gq rfl,by exact gq rfl,by exact gq rfl,by exact gq rfl,by exact gq rfl,by omega,h1,Ax,cC.nil,by simp[ids],rfl,by simp⟩
 rintro k d ⟨t,M,i,vo,p,a,b,vd,s,O,rfl,g1,g2,g3,g4,g5,hik,hw,hG,hO,hd,hof,hOl⟩
 apply bO
 unfold uH
 change wp _ _ _ _ ⟨ap [] t, [],none,M⟩ _
 have hC:=hw.c
 by_cases hi:i<l.length
 ·obtain ⟨id,off,w',cc,a1,a2,a3,a4,a5⟩:=(hv.grew hC).at i (by simpa using hi)
  simp only[List.getElem_map] at a5
  have hcons:l.drop i=l[i]::l.drop (i+1):=List.drop_eq_getElem_cons hi
  have hei:=he l[i] (List.getElem_mem hi)
  rw[hcons,oL] at hof
  generalize l[i]=e at *
  obtain ⟨ek,ec,ea,ev⟩:=e
  rw[←aQ M]
  by_cases h8:ek=8
  ·subst h8
   rw[Gj rfl] at hof
   simp (config:={maxSteps:=1000000}) (disch:=first|assumption|omega|(apply aC;omega)|(apply ao;assumption)|(simp only[cd]<;>omega)) only[go_sem,seval,g1,g2,g3,g4,g5,a1,a2,a5]
   generalize hM1:hp _ 1 M=M1
   have hC1:Chg [] M M1:=fJ hM1 rfl
   have hw1:=hw.grow0 hC1
   obtain ⟨vc,m2,r2,hOc,hCc⟩:=rY hw1 hG (by omega)
   have hO2:=(hO.chg hC1 (by simp)).chg hCc hd
   have hcl:=hG.close
   have hC2:=hw1.c.trans hCc fun j hj ho=>Gh ho (hw1.old j hj).2
   simp (config:={maxSteps:=1000000}) (disch:=first|assumption|omega|(apply aC;omega)|(apply ao;assumption)|(simp only[cd]<;>omega)) only[go_sem,seval,r2.wf']
   refine pv hO2 hOc.sl (fun j hj=>hC2.old hj) (by simp;omega) (by simp;omega) ?_
   intro v3 M3 hO3 hC3
   have hC3':=hC2.trans hC3 fun j hj ho=>Gh ho (hO2.new j hj)
   simp (config:={maxSteps:=1000000}) (disch:=first|assumption|omega|(apply aC;omega)|(apply ao;assumption)|(simp only[cd]<;>omega)) only[go_sem,seval]
   generalize hM4:hp _ 1 M3=M4
   have hC4:Chg [] M3 M4:=fJ hM4 rfl
   have gx:M4.get (na M3 0)=some (.cells true [ii (-1)]):=eZ hM4
   have ox:aM M4 (na M3 0):=eY hM4 (by omega)
   have hC4':=hC3'.trans hC4 (by simp)
   have hO4:=hO3.chg hC4 (by simp)
   refine oz hO4 gx ox rfl (fun j hj=>hC4'.old hj) (by simp;omega) (by simp;omega) ?_
   intro v5 M5 hO5 hC5
   have hC5':=hC4'.trans hC5 fun j hj ho=>Gh ho (hO4.new j hj)
   obtain ⟨p6,M6,r6,a6,b6,vd6,h6,n6,hC6⟩:=rI m M5 hC5'
   simp (config:={maxSteps:=1000000}) (disch:=first|assumption|omega|(apply aC;omega)|(apply ao;assumption)|(simp only[cd]<;>omega)) only[go_sem,seval,aQ,r6.wf',g1,g2,g3,g4,g5]
   refine ⟨k - 1,by omega,_,M6,i+1,v5,p6,a6,b6,vd6,w0,O++(fj s++ [-1]),rfl,by exact gq g1,by exact gq g2,by exact gq rfl,by exact gq rfl,by exact gq rfl,by omega,h6,Ax.mono (by omega), ?_,fun j hj hf=>n6 j hf (hO5.sl.old j hj), ?_, ?_⟩
   ·have:=hO5.chg hC6 (by simp)
    simpa [fi] using this
   ·rw[hof];simp
   ·simp;omega
  ·rw[Gi h8] at hof
   simp (config:={maxSteps:=1000000}) (disch:=first|assumption|omega|(apply aC;omega)|(apply ao;assumption)|(simp only[cd]<;>omega)) only[go_sem,seval,g1,g2,g3,g4,g5,a1,a2,a5,h8]
   generalize hM1:hp _ 1 M=M1
   have hC1:Chg [] M M1:=fJ hM1 rfl
   have hw1:=hw.grow0 hC1
   obtain ⟨m2,r2,v2,h2,hE⟩:=yO hw1 hG (by omega) (by omega) hei
   simp (config:={maxSteps:=1000000}) (disch:=first|assumption|omega|(apply aC;omega)|(apply ao;assumption)|(simp only[cd]<;>omega)) only[go_sem,seval,r2.wf',g1,g2,g3,g4,g5]
   refine ⟨k - 1,by omega,_,m2,i+1,vo,p,a,b,v2,fp (i:Nat) ⟨ek,ec,ea,ev⟩ s,O,rfl,by exact gq g1,by exact gq g2,by exact gq rfl,by exact gq g4,by exact gq g5,by omega,h2, ?_,(hO.chg hC1 (by simp)).chg hE.c hd,fun j hj hf=> ?_, ?_, ?_⟩
   ·exact hG.event hei (by omega)
   ·exact (hE.f j hf).elim (hd j hj) fun q=>q (hC1.old (hO.sl.old j hj))
   ·exact hof
   ·exact Nat.le_trans hOl (Nat.mul_le_mul_right _ (Nat.le_succ i))
 ·have e:i=l.length:=by omega
  subst e
  obtain ⟨vc,m2,r2,hOc,hCc⟩:=rY hw hG (by omega)
  have hO2:=hO.chg hCc hd
  have hcl:=hG.close
  have hC2:=hw.c.trans hCc fun j hj ho=>Gh ho (hw.old j hj).2
  simp (config:={maxSteps:=1000000}) (disch:=first|assumption|omega|(apply aC;omega)|(apply ao;assumption)|(simp only[cd]<;>omega)) only[go_sem,seval,g1,g2,g3,g4,g5,r2.wf']
  refine pv hO2 hOc.sl (fun j hj=>hC2.old hj) (by simp;omega) (by simp;omega) ?_
  intro v3 M3 hO3 hC3
  have hC3':=hC2.trans hC3 fun j hj ho=>Gh ho (hO2.new j hj)
  simp (config:={maxSteps:=1000000}) (disch:=first|assumption|omega|(apply aC;omega)|(apply ao;assumption)|(simp only[cd]<;>omega)) only[go_sem,seval,aQ]
  have e:w8 (l.length:Nat) s []=fj s:=rfl
  rw[List.drop_length,e] at hof
  refine hK _ _ ⟨?_,hC3', ?_⟩
  ·rw[hof];simpa [fi] using hO3
  ·rw[hof,List.length_append];omega
end OD
open Go Nm Go.Proofs
namespace OD
theorem EZ (z:Int):∃r:Nat,r<4/\eC .num .and (ii z) (ii 3)=some (ii r):=by
 have hB:∃r:Nat,r<4/\gw .and .i64 z 3=some (ii r):=by
  refine ⟨(BitVec.ofInt 64 z&&& BitVec.ofInt 64 3).toNat, ?_, ?_⟩
  ·rw[BitVec.toNat_and]
   have:(BitVec.ofInt 64 3).toNat=3:=by decide
   rw[this]
   exact Nat.lt_succ_of_le Nat.and_le_right
  ·have hr:(BitVec.ofInt 64 z&&& BitVec.ofInt 64 3).toNat<4:=by
    rw[BitVec.toNat_and]
    have:(BitVec.ofInt 64 3).toNat=3:=by decide
    rw[this]
    exact Nat.lt_succ_of_le Nat.and_le_right
   show bz .i64 (IntKind.wrap .i64 ((BitVec.ofInt 64 z&&& BitVec.ofInt 64 3).toNat:Int))=_
   rw[←bc,Nm.wrap_small (by omega) (by omega),aK]
 obtain ⟨r0,hr0,hb⟩:=hB
 have key:dO .and .i64 z 3=some (ii r0)∨∃a:Nat,z=a/\a<9223372036854775808:=by
  cases z with
  |negSucc n=>left;rw[←hb];rfl
  |ofNat a=>
   by_cases h:a<9223372036854775808
   ·right;exact ⟨a,rfl,h⟩
   ·left
    rw[←hb]
    show cond (Nat.ble (Nat.succ a) 9223372036854775808) _ (gw .and .i64 (.ofNat a) (.ofNat 3))=_
    rw[show Nat.ble (Nat.succ a) 9223372036854775808=false from by
     cases hh:Nat.ble (Nat.succ a) 9223372036854775808 with
     |false=>rfl
     |true=>have:=Nat.le_of_ble_eq_true hh;omega]
    rfl
 rcases key with h|⟨a,rfl,h⟩
 ·exact ⟨r0,hr0,(nu rfl).trans h⟩
 ·refine ⟨a&&& 3,Nat.lt_succ_of_le Nat.and_le_right,(nu rfl).trans ?_⟩
  show cond (Nat.ble (Nat.succ a) 9223372036854775808) (cond (Nat.ble (Nat.succ 3) 9223372036854775808) (bz .i64 (.ofNat (Nat.land a 3))) _) _=_
  rw[show Nat.ble (Nat.succ a) 9223372036854775808=true from Nat.ble_eq_true_of_le h]
  show bz .i64 (.ofNat (Nat.land a 3))=_
  rw[aK];rfl
theorem vk (m:NH) {a b:NV} {l:List Int} (ha:Sl m a 1 (fi l)) (hb:Sl m b 1 (fi l)) (hl:l.length<=10000000):dV Try.prog S0 8 [a,b] m (.bool true) m:=by
 have h:∃v m',dV Try.prog S0 8 [a,b] m v m'/\v= .bool true/\m'=m:=by
  refine WF.ex fun K hK=> ?_
  refine WF.of_wpH (fun _=>rfl) wF (L:= [(.a .e,b),(.e,a)]) rfl ?_
  unfold Fv
  have hlen:=ha.len
  have hlen':=hb.len
  rw[List.length_map] at hlen hlen'
  simp (config:={maxSteps:=1000000}) (disch:=first|assumption|omega|(apply aC;omega)|(apply ao;assumption)|(simp only[cd]<;>omega)) only[go_sem,seval,hlen,hlen',aQ]
  refine W.loop (fun k d=>∃t i,d=⟨t, [],none,m⟩/\NT.get D4.e t=some a/\NT.get D4.e.a t=some b/\NT.get D4.e.a.a t=some (ii (i:Nat))/\i+k=l.length) ?_ l.length _ ⟨_,0,rfl,by simp only[go_sem,seval],by simp only[go_sem,seval],by simp only[go_sem,seval]<;>rfl,by omega⟩
  rintro k d ⟨t,i,rfl,g1,g2,g3,hik⟩
  apply bO
  unfold vn
  change wp _ _ _ _ ⟨ap [] t, [],none,m⟩ _
  by_cases hi:i<l.length
  ·obtain ⟨id,off,w,c,a1,a2,a3,a4,a5⟩:=ha.at i (by simpa using hi)
   obtain ⟨id',off',w',c',b1,b2,b3,b4,b5⟩:=hb.at i (by simpa using hi)
   rw[List.getElem_map] at a5 b5
   have c0:=jN a5 0 (by omega)
   have c0':=jN b5 0 (by omega)
   rw[Nat.add_zero] at c0 c0'
   simp (config:={maxSteps:=1000000}) (disch:=first|assumption|omega|(apply aC;omega)|(apply ao;assumption)|(simp only[cd]<;>omega)) only[go_sem,seval,g1,g2,g3,hlen,hlen',a1,a2,b1,b2,c0,c0']
   refine ⟨k - 1,by omega,_,i+1,rfl, ?_, ?_, ?_,by omega⟩
   ·simp (config:={maxSteps:=1000000}) (disch:=first|assumption|omega|(apply aC;omega)|(apply ao;assumption)|(simp only[cd]<;>omega)) only[go_sem,seval,g1]
   ·simp (config:={maxSteps:=1000000}) (disch:=first|assumption|omega|(apply aC;omega)|(apply ao;assumption)|(simp only[cd]<;>omega)) only[go_sem,seval,g2]
   ·simp (config:={maxSteps:=1000000}) (disch:=first|assumption|omega|(apply aC;omega)|(apply ao;assumption)|(simp only[cd]<;>omega)) only[go_sem,seval]<;>rfl
  ·simp (config:={maxSteps:=1000000}) (disch:=first|assumption|omega|(apply aC;omega)|(apply ao;assumption)|(simp only[cd]<;>omega)) only[go_sem,seval,g1,g2,g3,hlen,hlen']
   exact hK _ _ ⟨rfl,rfl⟩
 obtain ⟨v,m',h1,rfl,rfl⟩:=h
 exact h1
theorem r7 (m:NH):dV Try.prog S0 6 [] m (.bool true) m:=dV.kept rfl m
abbrev oe (c:Int):Ev:=⟨4,c,0,0⟩
theorem zp {m:NH} {l:List NV} (h:Ty Try.prog m 27 l):∃v b,l= [v]/\Sl m v 1 (fi b):=by
 obtain ⟨v,C,rfl,hS,hm,hall⟩:=h.inv_slc Try.underlying27
 have hc:Try.prog.cellsOf 3=1:=by kernel_rfl
 rw[hc] at hS
 obtain ⟨b,rfl⟩:=pq (f:=fun z=> [ii z]) fun c hc=>by
  obtain ⟨z,rfl,_⟩:=(hall c hc).inv_int Try.underlying3
  exact ⟨z,rfl⟩
 exact ⟨v,b,rfl,hS⟩
theorem tC (m:NH) (l:List NV) (h:TyA Try.prog m [27] l):∃m',dV Try.prog S0 5 l m (.bool true) m':=by
 obtain ⟨v,r,rfl,h1,h⟩:=h.inv1 (fun fs e=>by rw[Try.underlying27] at e;cases e)
 obtain rfl:=h.inv0
 obtain ⟨v',zs,e,hv⟩:=zp h1
 cases e
 suffices hw:∃m',dV Try.prog S0 5 [v] m (.bool true) m'/\True by
  obtain ⟨m',h,_⟩:=hw;exact ⟨m',h⟩
 refine WF.ex1 fun K hK=> ?_
 replace hK:∀m',K (.bool true) m':=fun m'=>hK m' trivial
 refine WF.of_wpG (fun _=>rfl) qL (L:= [(.e,v)]) rfl ?_
 unfold FK
 have hlen:=hv.len
 simp only[List.length_map] at hlen
 by_cases hn:zs.length<=200
 ·simp (config:={maxSteps:=1000000}) (disch:=first|assumption|omega|(apply aC;omega)|(apply ao;assumption)|(simp only[cd]<;>omega)) only[go_sem,seval,(r7 _).wf',hlen,aQ]
  refine W.loop (fun k d=>∃t M i ve vw cs,d=⟨t, [],none,M⟩/\NT.get D4.e t=some v/\NT.get D4.e.a.b t=some (ii (i:Nat))/\NT.get D4.e.f t=some ve/\NT.get D4.e.a.a t=some vw/\i+k=zs.length/\cs.length=i/\(∀c∈cs,(0:Int)<=c/\c<=3)/\cC m M ve 4 ((cs.map oe).map Ev.l)/\cC m M vw 1 (fi cs)/\(∀j∈ids ve,j∉ids vw)/\Chg [] m M) ?_ zs.length _
   ⟨_,m,0,.nils,.nils, [],rfl,by exact gq rfl,by exact gq rfl,by exact gq rfl,by exact gq rfl,by omega,rfl,by simp,cC.nil,cC.nil,by simp[ids],Chg.refl m⟩
  rintro k d ⟨t,M,i,ve,vw,cs,rfl,g1,g2,g3,g4,hik,hcl,hcs,hE,hW,hd,hC⟩
  apply bO
  unfold uT
  change wp _ _ _ _ ⟨ap [] t, [],none,M⟩ _
  by_cases hi:i<zs.length
  ·obtain ⟨id,off,w',cc,a1,a2,a3,a4,a5⟩:=(hv.grew hC).at i (by simpa using hi)
   have c0:=jN a5 0 (by omega)
   simp only[List.getElem_map,Nat.add_zero] at c0
   obtain ⟨c,hc,hand⟩:=EZ zs[i]
   rw[←aQ M]
   simp (config:={maxSteps:=1000000}) (disch:=first|assumption|omega|(apply aC;omega)|(apply ao;assumption)|(simp only[cd]<;>omega)) only[go_sem,seval,g1,g2,g3,g4,hlen,a1,a2,c0,hand]
   generalize hM1:hp _ 1 M=M1
   have hC1:Chg [] M M1:=fJ hM1 rfl
   have gx:M1.get (na M 0)=some (.cells true (oe c).l):=eZ hM1
   have ox:aM M1 (na M 0):=eY hM1 (by omega)
   have hC1':=hC.trans hC1 (by simp)
   have hE1:=hE.chg hC1 (by simp)
   have hW1:=hW.chg hC1 (by simp)
   refine ol hE1 gx ox rfl (fun j hj=>hC1'.old hj) (by simp;omega) (by simp;omega) ?_
   intro ve2 M2 hE2 hC2 hF2
   rw[←aQ M2]
   have hC2':=hC1'.trans hC2 fun j hj ho=>Gh ho (hE1.new j hj)
   have hW2:=hW1.chg hC2 fun j hj q=>hd j q hj
   simp (config:={maxSteps:=1000000}) (disch:=first|assumption|omega|(apply aC;omega)|(apply ao;assumption)|(simp only[cd]<;>omega)) only[go_sem,seval,g4]
   generalize hM3:hp _ 1 M2=M3
   have hC3:Chg [] M2 M3:=fJ hM3 rfl
   have gx3:M3.get (na M2 0)=some (.cells true [ii c]):=eZ hM3
   have ox3:aM M3 (na M2 0):=eY hM3 (by omega)
   have hC3':=hC2'.trans hC3 (by simp)
   have hW3:=hW2.chg hC3 (by simp)
   have hE3:=hE2.chg hC3 (by simp)
   refine ol hW3 gx3 ox3 rfl (fun j hj=>hC3'.old hj) (by simp;omega) (by simp;omega) ?_
   intro vw4 M4 hW4 hC4 hF4
   simp (config:={maxSteps:=1000000}) (disch:=first|assumption|omega|(apply aC;omega)|(apply ao;assumption)|(simp only[cd]<;>omega)) only[go_sem,seval,g1,g2]
   have hd2:∀j∈ids ve2,j∉ids vw:=fun j hj q=>(hF2 j hj).elim (fun e=>hd j e q) fun e=>e (hC1.old (hW.sl.old j q))
   refine ⟨k - 1,by omega,_,M4,i+1,ve2,vw4,cs++ [(c:Int)],rfl,by exact gq g1,by exact gq rfl,by exact gq rfl,by exact gq rfl,by omega,by simp[hcl], ?_, ?_,by simpa using hW4,fun j hj q=> ?_,hC3'.trans hC4 fun j hj ho=>Gh ho (hW3.new j hj)⟩
   ·intro d hd
    rcases List.mem_append.1 hd with hd|hd
    ·exact hcs d hd
    ·simp at hd;subst hd;omega
   ·have:=hE3.chg hC4 hd2
    simpa using this
   ·exact (hF4 j q).elim (hd2 j hj) fun e=>e (hE3.sl.old j hj)
  ·have e:i=zs.length:=by omega
   subst e
   have hel:(cs.map oe).length<=1000:=by simp;omega
   obtain ⟨vo,M2,r2,hO2,hC2,-⟩:=FL hE.sl (fun e he=>by
    obtain ⟨c,hc,rfl⟩:=List.mem_map.1 he
    have:=hcs c hc
    exact ⟨⟨by show _<=c;omega,by show c<=_;omega⟩,by show (0:Int)<_;omega⟩) hel
   rw[tf] at hO2
   have r3:=vk M2 hO2.sl (hW.sl.grew hC2) (by omega)
   simp (config:={maxSteps:=1000000}) (disch:=first|assumption|omega|(apply aC;omega)|(apply ao;assumption)|(simp only[cd]<;>omega)) only[go_sem,seval,g1,g2,g3,g4,hlen,r2.wf',r3.wf']
   exact hK _
 ·simp (config:={maxSteps:=1000000}) (disch:=first|assumption|omega|(apply aC;omega)|(apply ao;assumption)|(simp only[cd]<;>omega)) only[go_sem,seval,(r7 _).wf',hlen]
  exact hK _
end OD
open Go Nm Go.Proofs
namespace OD
end OD
open Go Nm Go.Proofs Go.RowKit
namespace OD
section
variable [Val]
theorem DX:oG Try.prog [3,22,24,26,27]=true:=by kernel_rfl
theorem BT:F2 ((begin Try.prog (fun _ _=>0) default).world.heap[Try.prog.globals.size]?)=true:=by kernel_rfl
theorem outsC {W:World} (hs:W.ShapedOpen Try.prog) {H:Type} {enc:TypeId×Value->H} {args:List Value} {ds:List (DataW H)} {ps:List MemPlace}
 (h:DataW.TrodAll enc Try.prog W 0 (fun _=>true) true [27] args ds ps) {base:Nat} (hval:∀(j:Nat) t v, [27][j]? =some t->args[j]? =some v->Value.okWide Try.prog W .any base t v):
 Calls Try.prog 5 args.toArray W fun e W'=>e= .returned (.bool true)/\Below W.heap.size W W':=
 tK mixed Try.codeOk AM DX qL (fun _=>rfl) (by decide) tC (Nat.zero_le _) (o8 BT hs) h hval
end
end OD
