/- A machine that runs the given program with memory and order of evaluation taken apart, and what it shows of the law WholeSparing: part 1. -/
import Derived.Calls
import Derived.WalkKit
import Derived.MapKept
import Derived.Deep.MidRow
import Derived.Deep.AppendSrc
import Derived.Laws.IdiomStrings
import Derived.Laws.MakeOwn
import Derived.AtR
import Derived.RangeFuncIn
set_option linter.unusedSimpArgs false
set_option linter.unusedVariables false
set_option linter.unusedSectionVars false
set_option linter.defProp false
noncomputable section
namespace Nm
theorem aa0:type_of% @List.length_map:= @List.length_map
theorem aa1:type_of% @List.mem_cons:= @List.mem_cons
theorem aa2:type_of% @Nat.le_refl:= @Nat.le_refl
theorem aa3:type_of% @Bool.false_ne_true:= @Bool.false_ne_true
theorem aa4:type_of% @List.getElem_map:= @List.getElem_map
theorem aa5:type_of% @List.length_append:= @List.length_append
theorem aa6:type_of% @List.mem_append:= @List.mem_append
theorem aa7:type_of% @List.length_take:= @List.length_take
theorem aa8:type_of% @List.mem_cons_of_mem:= @List.mem_cons_of_mem
theorem aa9:type_of% @List.getElem_mem:= @List.getElem_mem
theorem ab0:type_of% @Nat.ble_eq_true_of_le:= @Nat.ble_eq_true_of_le
theorem ab1:type_of% @List.append_assoc:= @List.append_assoc
theorem ab2:type_of% @List.mem_cons_self:= @List.mem_cons_self
theorem ab3:type_of% @List.mem_map:= @List.mem_map
theorem ab4:type_of% @List.length_cons:= @List.length_cons
theorem ab5:type_of% @List.map_append:= @List.map_append
theorem ab6:type_of% @Bool.and_eq_true:= @Bool.and_eq_true
theorem ab7:type_of% @List.take_add_one:= @List.take_add_one
theorem ab8:type_of% @List.drop_eq_getElem_cons:= @List.drop_eq_getElem_cons
theorem ab9:type_of% @Nat.le_trans:= @Nat.le_trans
theorem ac0:type_of% @List.mem_singleton:= @List.mem_singleton
theorem ac1:type_of% @List.map_cons:= @List.map_cons
theorem ac2:type_of% @Nat.lt_or_ge:= @Nat.lt_or_ge
theorem ac3:type_of% @List.length_set:= @List.length_set
theorem ac4:type_of% @Nat.le_of_ble_eq_true:= @Nat.le_of_ble_eq_true
theorem ac5:type_of% @Nat.min_eq_left:= @Nat.min_eq_left
theorem ac6:type_of% @List.length_drop:= @List.length_drop
theorem ac7:type_of% @List.append_nil:= @List.append_nil
theorem ac8:type_of% @Int.toNat_natCast:= @Int.toNat_natCast
theorem ac9:type_of% @List.take_of_length_le:= @List.take_of_length_le
theorem ad0:type_of% @List.drop_of_length_le:= @List.drop_of_length_le
theorem ad1:type_of% @Nat.zero_add:= @Nat.zero_add
theorem ad2:type_of% @Nat.lt_of_lt_of_le:= @Nat.lt_of_lt_of_le
theorem ad3:type_of% @Nat.ne_of_beq_eq_false:= @Nat.ne_of_beq_eq_false
theorem ad4:type_of% @Nat.add_mul:= @Nat.add_mul
theorem ad5:type_of% @Bool.eq_iff_iff:= @Bool.eq_iff_iff
theorem ad6:type_of% @Nat.lt_irrefl:= @Nat.lt_irrefl
theorem ad7:type_of% @Nat.add_zero:= @Nat.add_zero
theorem ad8:type_of% @List.cons_append:= @List.cons_append
theorem ad9:type_of% @Nat.le_max_left:= @Nat.le_max_left
theorem ae0:type_of% @Nat.le_max_right:= @Nat.le_max_right
theorem ae1:type_of% @List.take_length:= @List.take_length
theorem ae2:type_of% @List.length_replicate:= @List.length_replicate
theorem ae3:type_of% @Array.getElem_swap:= @Array.getElem_swap
theorem ae4:type_of% @List.nil_append:= @List.nil_append
theorem ae5:type_of% @Option.getD_some:= @Option.getD_some
theorem ae6:type_of% @Option.toList_some:= @Option.toList_some
theorem ae7:type_of% @Nat.mul_le_mul_right:= @Nat.mul_le_mul_right
theorem ae8:type_of% @List.all_eq_true:= @List.all_eq_true
theorem ae9:type_of% @List.pairwise_cons:= @List.pairwise_cons
theorem af0:type_of% @List.length_nil:= @List.length_nil
theorem af1:type_of% @Int.emod_eq_of_lt:= @Int.emod_eq_of_lt
theorem af2:type_of% @Array.length_toList:= @Array.length_toList
theorem af3:type_of% @List.flatten_cons:= @List.flatten_cons
theorem af4:type_of% @Int.ofNat_eq_natCast:= @Int.ofNat_eq_natCast
theorem af5:type_of% @List.mem_of_mem_take:= @List.mem_of_mem_take
theorem af6:type_of% @List.drop_eq_nil_of_le:= @List.drop_eq_nil_of_le
theorem af7:type_of% @List.take_append_drop:= @List.take_append_drop
theorem adD {a b:Prop} (h:a) (h2:¬a):b:=absurd h h2
theorem adE {c:Prop} {h:Decidable c} (hc:¬c) {α:Sort _} {t e:α}:ite c t e=e:=if_neg hc
theorem adF {c:Prop} {h:Decidable c} (hc:c) {α:Sort _} {t e:α}:ite c t e=t:=if_pos hc
theorem adG {p:Prop} [Decidable p] (h:¬p):decide p=false:=decide_eq_false h
theorem adH {p:Prop} [Decidable p] (h:p):decide p=true:=decide_eq_true h
theorem adI {α:Type _} {a:α}:¬a ∈ ([]:List α):=List.not_mem_nil
theorem adJ {α:Type _} {a b:α} {l:List α}:a ∈ b::l↔a=b ∨ a ∈ l:=aa1
theorem adK {a b:Nat} (h:Nat.beq a b=true):a=b:=Nat.eq_of_beq_eq_true h
theorem adL {a:Int} (h:0 ≤ a):∃ n:Nat,a=n:=Int.eq_ofNat_of_zero_le h
open Go
inductive SI where
 |lit (n:Int)
inductive D4 where
 |e|a (d:D4)|b (d:D4)|c (d:D4)|f (d:D4)
inductive NV where
 |bool (b:Bool)
 |int (k:IntKind) (x:SI)
 |str (s:List Nat)
 |nilp
 |ptr (id:D4) (off:Nat)
 |nils
 |slc (id:D4) (off len esz kc:Nat)
 |nilm
 |map (id:D4)
 |nilf
 |fn (f:Nat) (cap:List NV)
 |yld (l:D4)
 |nili
 |ifc (t:Nat) (v:NV)
 |agg (l:List NV)
 |tup (l:List NV)
noncomputable section
def aK:NV:= .tup []
def NV.onInt {R:Type} (F:R) (K:IntKind->SI->R) (v:NV):R:=
 NV.rec (motive_1:=λ_=>R) (motive_2:=λ_=>R) (λ_=>F) K (λ_=>F) F (λ_ _=>F) F (λ_ _ _ _ _=>F) F (λ_=>F) F (λ_ _ _=>F) (λ_=>F) F (λ_ _ _=>F) (λ_ _=>F) (λ_ _=>F) F (λ_ _ _ _=>F) v
def NV.onIS {R:Type} (F:R) (K:IntKind->SI->R) (S:List Nat->R) (v:NV):R:=
 NV.rec (motive_1:=λ_=>R) (motive_2:=λ_=>R) (λ_=>F) K S F (λ_ _=>F) F (λ_ _ _ _ _=>F) F (λ_=>F) F (λ_ _ _=>F) (λ_=>F) F (λ_ _ _=>F) (λ_ _=>F) (λ_ _=>F) F (λ_ _ _ _=>F) v
def NV.onStr {R:Type} (F:R) (K:List Nat->R) (v:NV):R:=
 NV.rec (motive_1:=λ_=>R) (motive_2:=λ_=>R) (λ_=>F) (λ_ _=>F) K F (λ_ _=>F) F (λ_ _ _ _ _=>F) F (λ_=>F) F (λ_ _ _=>F) (λ_=>F) F (λ_ _ _=>F) (λ_ _=>F) (λ_ _=>F) F (λ_ _ _ _=>F) v
def NV.onBool {R:Type} (F:R) (K:Bool->R) (v:NV):R:=
 NV.rec (motive_1:=λ_=>R) (motive_2:=λ_=>R) K (λ_ _=>F) (λ_=>F) F (λ_ _=>F) F (λ_ _ _ _ _=>F) F (λ_=>F) F (λ_ _ _=>F) (λ_=>F) F (λ_ _ _=>F) (λ_ _=>F) (λ_ _=>F) F (λ_ _ _ _=>F) v
def NV.nilP {R:Type} (F N S:R) (v:NV):R:=
 NV.rec (motive_1:=λ_=>R) (motive_2:=λ_=>R) (λ_=>F) (λ_ _=>F) (λ_=>F) N (λ_ _=>S) F (λ_ _ _ _ _=>F) F (λ_=>F) F (λ_ _ _=>F) (λ_=>F) F (λ_ _ _=>F) (λ_ _=>F) (λ_ _=>F) F (λ_ _ _ _=>F) v
def NV.nilS {R:Type} (F N S:R) (v:NV):R:=
 NV.rec (motive_1:=λ_=>R) (motive_2:=λ_=>R) (λ_=>F) (λ_ _=>F) (λ_=>F) F (λ_ _=>F) N (λ_ _ _ _ _=>S) F (λ_=>F) F (λ_ _ _=>F) (λ_=>F) F (λ_ _ _=>F) (λ_ _=>F) (λ_ _=>F) F (λ_ _ _ _=>F) v
def NV.nilM {R:Type} (F N S:R) (v:NV):R:=
 NV.rec (motive_1:=λ_=>R) (motive_2:=λ_=>R) (λ_=>F) (λ_ _=>F) (λ_=>F) F (λ_ _=>F) F (λ_ _ _ _ _=>F) N (λ_=>S) F (λ_ _ _=>F) (λ_=>F) F (λ_ _ _=>F) (λ_ _=>F) (λ_ _=>F) F (λ_ _ _ _=>F) v
def NV.nilF {R:Type} (F N S:R) (v:NV):R:=
 NV.rec (motive_1:=λ_=>R) (motive_2:=λ_=>R) (λ_=>F) (λ_ _=>F) (λ_=>F) F (λ_ _=>F) F (λ_ _ _ _ _=>F) F (λ_=>F) N (λ_ _ _=>S) (λ_=>F) F (λ_ _ _=>F) (λ_ _=>F) (λ_ _=>F) F (λ_ _ _ _=>F) v
def NV.nilI {R:Type} (F N S:R) (v:NV):R:=
 NV.rec (motive_1:=λ_=>R) (motive_2:=λ_=>R) (λ_=>F) (λ_ _=>F) (λ_=>F) F (λ_ _=>F) F (λ_ _ _ _ _=>F) F (λ_=>F) F (λ_ _ _=>F) (λ_=>F) N (λ_ _ _=>S) (λ_ _=>F) (λ_ _=>F) F (λ_ _ _ _=>F) v
def D4.succ {R:Type} (d:D4) (K:D4->R):R:=
 D4.rec (motive:=λ_=>(D4->R)->R) (λK=>K (.a .e)) (λd _ K=>K (.b d)) (λd _ K=>K (.c d)) (λd _ K=>K (.f d)) (λ_ ih K=>ih λd=>K (.a d)) d K
def D4.dig {R:Type} (r:Nat) (d:D4) (K:D4->R):R:=cond (Nat.beq r 0) (K (.a d)) (cond (Nat.beq r 1) (K (.b d)) (cond (Nat.beq r 2) (K (.c d)) (K (.f d))))
def D4.ofF {R:Type} (fuel:Nat):Nat->(D4->R)->R:=
 Nat.rec (λ_ K=>K .e) (λ_ ih n K=>cond (Nat.beq n 0) (K .e) (ih (Nat.div (Nat.sub n 1) 4) λd=>D4.dig (Nat.mod (Nat.sub n 1) 4) d K)) fuel
def D4.ofNat {R:Type} (n:Nat) (K:D4->R):R:=D4.ofF n n K
inductive NT (α:Type) where
 |leaf
 |node (v:Option α) (a b c f:NT α)
def NT.get {α:Type} (d:D4):NT α->Option α:=
 D4.rec (NT.rec none (λv _ _ _ _ _ _ _ _=>v)) (λ_ ih=>NT.rec none (λ_ a _ _ _ _ _ _ _=>ih a)) (λ_ ih=>NT.rec none (λ_ _ a _ _ _ _ _ _=>ih a))
  (λ_ ih=>NT.rec none (λ_ _ _ a _ _ _ _ _=>ih a)) (λ_ ih=>NT.rec none (λ_ _ _ _ a _ _ _ _=>ih a)) d
def NT.set {α R:Type} (d:D4) (v:α):NT α->(NT α->R)->R:=
 D4.rec (λt K=>NT.rec (K (.node (some v) .leaf .leaf .leaf .leaf)) (λ_ a b c f _ _ _ _=>K (.node (some v) a b c f)) t)
  (λ_ ih t K=>NT.rec (ih .leaf λx=>K (.node none x .leaf .leaf .leaf)) (λw a b c f _ _ _ _=>ih a λx=>K (.node w x b c f)) t)
  (λ_ ih t K=>NT.rec (ih .leaf λx=>K (.node none .leaf x .leaf .leaf)) (λw a b c f _ _ _ _=>ih b λx=>K (.node w a x c f)) t)
  (λ_ ih t K=>NT.rec (ih .leaf λx=>K (.node none .leaf .leaf x .leaf)) (λw a b c f _ _ _ _=>ih c λx=>K (.node w a b x f)) t)
  (λ_ ih t K=>NT.rec (ih .leaf λx=>K (.node none .leaf .leaf .leaf x)) (λw a b c f _ _ _ _=>ih f λx=>K (.node w a b c x)) t) d
inductive NOpd where
 |tmp (t:D4)
 |const (v:NV)
inductive EK where
 |int|bool|str
inductive BC where
 |num|bool|ptr|slc|map|fn|ifc
 |ifc2 (ts:List Nat)
inductive NOp where
 |fail
 |move (x:NOpd)
 |pick (c a b:NOpd)
 |alloc (zero:List NV) (t:Nat)
 |box (x:NOpd) (t:Nat)
 |build (zero:List NV) (parts:List (Nat×Nat×NOpd))
 |buildSlice (zero:List NV) (esz len t:Nat) (parts:List (Nat×Nat×NOpd))
 |load1 (x:NOpd)
 |loadN (n:Nat) (x:NOpd)
 |store (n:Nat) (a x:NOpd)
 |nilCheck (x:NOpd)
 |bin (c:BC) (op:BinOp) (x y:NOpd)
 |eqAgg (neg:Bool) (eks:List EK) (x y:NOpd)
 |un (op:UnOp) (x:NOpd)
 |toInt (k:IntKind) (x:NOpd)
 |strToBytes (t:Nat) (x:NOpd)
 |bytesToStr (x:NOpd)
 |sameSlc (x:NOpd)
 |toStr (x:NOpd)
 |mkIfc (t:Nat) (x:NOpd)
 |mkFn (f:Nat) (cap:List NOpd)
 |mkMap
 |mkSlice (zero:List NV) (esz bytes t:Nat) (len cap:NOpd)
 |sliceStr (x:NOpd) (lo hi:Option NOpd)
 |sliceSlc (esz:Nat) (x:NOpd) (lo hi:Option NOpd)
 |sliceMax (esz:Nat) (x:NOpd) (lo hi mx:NOpd)
 |fieldAddr (off:Nat) (x:NOpd)
 |field1 (off:Nat) (x:NOpd)
 |fieldN (off n:Nat) (x:NOpd)
 |indexSlc (esz:Nat) (x i:NOpd)
 |indexArr (esz len:Nat) (x i:NOpd)
 |indexStr (x i:NOpd)
 |lookup (s:Bool) (zero:NV) (ok:Bool) (x i:NOpd)
 |mapUpdate (s:Bool) (m k v:NOpd)
 |typeAssert (t:Nat) (zero:NV) (x:NOpd)
 |extract (x:NOpd) (i:Nat)
 |call (f:NOpd) (args:List NOpd)
 |defer (f:NOpd)
 |panic (x:NOpd)
 |recover
 |lenStr (x:NOpd)
 |lenSlc (x:NOpd)
 |lenMap (x:NOpd)
 |lenArr (n:Nat)
 |minmax (max:Bool) (l:List NOpd)
 |append (esz bytes t:Nat) (s x:NOpd)
 |appendStr (t:Nat) (s x:NOpd)
 |copy (esz:Nat) (d s:NOpd)
 |delete (s:Bool) (m k:NOpd)
 |clearSlc (zero:List NV) (x:NOpd)
 |rangeMap (x:NOpd)
 |nextMap (x:NOpd)
 |entryMap (x:NOpd)
 |indexAgg (m:Option Nat) (len:Nat) (x i:NOpd)
structure NOper where
 dst:Option D4
 op:NOp
 guard:Option (D4×Bool)
 pre:Nat
 idx:Nat
inductive NC where
 |skip
 |reg (ops:List NOper)
 |regD (ops:List NOper)
 |seq (a b:NC)
 |cond (c:NOpd) (a b:NC)
 |block (id:Nat) (a:NC)
 |loop (a:NC)
 |rangeFunc (f:NOpd) (params:List D4) (assign body:NC)
 |exit (id:Nat)
 |ret
inductive NRes where
 |tmp (t:D4)
 |cell1 (t:D4)
 |cellN (t:D4) (n:Nat)
structure NFun where
 body:NC
 ntmps:Nat
 results:List NRes
inductive Jump where
 |none|ret|exit (id:Nat)
inductive NO where
 |defd (open_:Bool)
 |cells (wr:Bool) (c:List NV)
 |map (l:List (NV×NV))
 |iter (left:List (NV×NV)) (cur:Option (NV×NV))
 |loop (state:Nat) (pending:Jump) (tmps:NT NV) (params:List D4) (assign body:NC)
 |dead
structure NH where
 m:NT NO
 next:D4
def aG {R:Type} (n:Nat) (k:Nat->R):R:=Nat.rec (k 0) (λp _=>k (Nat.succ p)) n
def Nx {R:Type} (n:Int) (k:Int->R):R:=Int.rec (λm=>aG m λm=>k (.ofNat m)) (λm=>aG m λm=>k (.negSucc m)) n
def NH.get (h:NH) (id:D4):Option NO:=NT.get id h.m
def NH.set {R:Type} (h:NH) (id:D4) (o:NO) (K:NH->R):R:=NH.rec (λm n=>m.set id o λm=>K ⟨m,n⟩) h
def NH.new {R:Type} (h:NH) (o:NO) (K:D4->NH->R):R:=NH.rec (λm n=>m.set n o λm=>n.succ λn'=>K n ⟨m,n'⟩) h
def kD {α:Type} (l:List α):Nat->Option α:=
 List.rec (λ_=>none) (λa _ ih n=>Nat.rec (some a) (λp _=>ih p) n) l
def jt {α:Type} (n:Nat):List α->Option (List α):=
 Nat.rec (λ_=>some []) (λ_ ih l=>List.rec none (λa t _=>Option.rec none (λt'=>some (a::t')) (ih t)) l) n
def dN {α:Type} (n:Nat):List α->Option (List α):=
 Nat.rec (λl=>some l) (λ_ ih l=>List.rec none (λ_ t _=>ih t) l) n
def fC {α:Type} (l:List α) (off n:Nat):Option (List α):=Option.rec none (λt=>jt n t) (dN off l)
def gT {α:Type} (k:Nat) (K:List α->Option (List α)):List α->Option (List α):=
 Nat.rec K (λ_ ih l=>List.rec none (λa t _=>Option.rec none (λt'=>some (a::t')) (ih t)) l) k
def rO {α:Type} (new:List α):List α->Option (List α):=
 List.rec (λl=>some l) (λb _ ih l=>List.rec none (λ_ t _=>Option.rec none (λt'=>some (b::t')) (ih t)) l) new
def dx {α:Type} (new:List α) (off:Nat):List α->Option (List α):=
 Nat.rec (rO new) (λ_ ih l=>List.rec none (λa t _=>Option.rec none (λt'=>some (a::t')) (ih t)) l) off
def iM {α R:Type} (a b:List α) (K:List α->R):R:=List.rec (motive:=λ_=>(List α->R)->R) (λK=>K b) (λx _ ih K=>ih λt=>K (x::t)) a K
def Hx {α R:Type} (l:List α):Nat->(Nat->R)->R:=List.rec (λn K=>K n) (λ_ _ ih n K=>aG (Nat.succ n) λn=>ih n K) l
def dJ {α R:Type} (l:List α) (K:Nat->R):R:=Hx l 0 K
def vH {α R:Type} (n:Nat) (z:List α) (K:List α->R):R:=Nat.rec (motive:=λ_=>(List α->R)->R) (λK=>K []) (λ_ ih K=>ih λt=>iM z t K) n K
def cellsOf (v:NV):Option (List NV):=match v with| .agg l=>some l| .tup _=>none|v=>some [v]
def Uc (a b:Int):Bool:=Int.rec (λm=>Int.rec (λn=>Nat.ble m n) (λ_=>false) b) (λm=>Int.rec (λ_=>true) (λn=>Nat.ble n m) b) a
def ww (a b:Int):Bool:=Int.rec (λm=>Int.rec (λn=>Nat.beq m n) (λ_=>false) b) (λm=>Int.rec (λ_=>false) (λn=>Nat.beq n m) b) a
def qH (b:Bool):Bool:=Bool.rec true false b
def El (a b:Int):Bool:=qH (Uc b a)
def bM (k:IntKind):Int->Int:=
 IntKind.rec (IntKind.wrap .i8) (IntKind.wrap .i16) (IntKind.wrap .i32)
  (Int.rec (λm=>cond (Nat.ble (Nat.succ m) 9223372036854775808) (.ofNat m) (IntKind.wrap .i64 (.ofNat m))) (λm=>cond (Nat.ble (Nat.succ m) 9223372036854775808) (.negSucc m) (IntKind.wrap .i64 (.negSucc m))))
  (Int.rec (λm=> .ofNat (Nat.mod m 256)) (λm=>IntKind.wrap .u8 (.negSucc m))) (IntKind.wrap .u16)
  (Int.rec (λm=> .ofNat (Nat.mod m 4294967296)) (λm=>IntKind.wrap .u32 (.negSucc m)))
  (Int.rec (λm=> .ofNat (Nat.mod m 18446744073709551616)) (λm=> .ofNat (Nat.sub 18446744073709551615 (Nat.mod m 18446744073709551616)))) k
def Jr (a b:Int):Int:=Int.rec (λm=>Int.rec (λn=> .ofNat (Nat.add m n)) (λn=>Int.ofNat m+Int.negSucc n) b) (λm=>Int.negSucc m+b) a
def Fd (a b:Int):Int:=Int.rec (λm=>Int.rec (λn=>cond (Nat.ble n m) (.ofNat (Nat.sub m n)) (.negSucc (Nat.sub (Nat.sub n m) 1))) (λn=>Int.ofNat m - Int.negSucc n) b) (λm=>Int.negSucc m - b) a
def xe (a b:Int):Int:=Int.rec (λm=>Int.rec (λn=> .ofNat (Nat.mul m n)) (λn=>Int.ofNat m*Int.negSucc n) b) (λm=>Int.negSucc m*b) a
def cS (k:IntKind) (n:Int):Option NV:=Nx n λn=>some (.int k (.lit n))
def cH (b:Bool):Option NV:=Bool.rec (some (.bool false)) (some (.bool true)) b
def rx (op:BinOp) (k:IntKind) (a b:Nat):Option Nat:=
 match op with
 | .and=>some (Nat.land a b)
 | .or=>some (Nat.lor a b)
 | .xor=>some (Nat.xor a b)
 | .andNot=>some (Nat.land a (Nat.sub (Nat.sub (Nat.pow 2 k.bits) 1) b))
 |_=>none
def bE (k:IntKind):Nat:=match k with| .i64=>9223372036854775808| .u64=>18446744073709551616| .u32=>4294967296| .u8=>256|_=>0
def AQ (op:BinOp) (k:IntKind) (x y:Int):Option NV:=
 match op with
 | .and=>cS k (k.wrap (BitVec.ofInt k.bits x&&& BitVec.ofInt k.bits y).toNat)
 | .or=>cS k (k.wrap (BitVec.ofInt k.bits x|||BitVec.ofInt k.bits y).toNat)
 | .xor=>cS k (k.wrap (BitVec.ofInt k.bits x ^^^ BitVec.ofInt k.bits y).toNat)
 | .andNot=>cS k (k.wrap (BitVec.ofInt k.bits x&&& ~~~BitVec.ofInt k.bits y).toNat)
 |_=>none
def gC (op:BinOp) (k:IntKind) (x y:Int):Option NV:=
 match x,y with
 | .ofNat a,.ofNat b=>cond (Nat.ble (Nat.succ a) (bE k)) (cond (Nat.ble (Nat.succ b) (bE k))
  (match rx op k a b with
   |some r=>cS k (.ofNat r)
   |none=>none) (AQ op k (.ofNat a) (.ofNat b))) (AQ op k (.ofNat a) (.ofNat b))
 |x,y=>AQ op k x y
def isZ (y:Int):Bool:=match y with| .ofNat n=>Nat.beq n 0|_=>false
def Ja (q:Bool) (k:IntKind) (x y:Int):Option NV:=
 cond (isZ y) none (match x,y with
 | .ofNat a,.ofNat b=>cond q (cS k (bM k (.ofNat (Nat.div a b)))) (cS k (.ofNat (Nat.mod a b)))
 |x,y=>cond q (cS k (bM k (x.tdiv y))) (cS k (x.tmod y)))
def ss (k:IntKind) (n:Nat):Nat:=cond (Nat.ble n k.bits) n k.bits
def Py (k:IntKind) (x y:Int):Option NV:=
 match y with
 | .ofNat n=>cS k (bM k (xe x (.ofNat (Nat.pow 2 (ss k n)))))
 |_=>none
def Jq (k:IntKind) (x y:Int):Option NV:=
 match x,y with
 | .ofNat a,.ofNat n=>cS k (.ofNat (Nat.div a (Nat.pow 2 (ss k n))))
 |x,.ofNat n=>cS k (x.fdiv (2 ^ (ss k n)))
 |_,_=>none
def iK (op:BinOp):IntKind->Int->Int->Option NV:=
 BinOp.rec (λk x y=>cS k (bM k (Jr x y)))
  (λk x y=>cS k (bM k (Fd x y)))
  (λk x y=>cS k (bM k (xe x y)))
  (Ja true) (Ja false)
  (gC .and) (gC .or) (gC .xor)
  Py Jq
  (gC .andNot)
  (λ_ x y=>cH (ww x y))
  (λ_ x y=>cH (qH (ww x y)))
  (λ_ x y=>cH (El x y))
  (λ_ x y=>cH (Uc x y))
  (λ_ x y=>cH (El y x))
  (λ_ x y=>cH (Uc y x)) op
def JM (a:List Nat):List Nat->Bool:=
 List.rec (λb=>List.rec true (λ_ _ _=>false) b)
  (λx _ ih b=>List.rec false (λy t _=>cond (Nat.beq x y) (ih t) false) b) a
def UD (a:List Nat):List Nat->Bool:=
 List.rec (λb=>List.rec false (λ_ _ _=>true) b)
  (λx _ ih b=>List.rec false (λy t _=>cond (Nat.ble (Nat.succ x) y) true (cond (Nat.beq x y) (ih t) false)) b) a
def LG (op:BinOp) (a b:List Nat):Option NV:=
 match op with
 | .add=>iM a b λl=>dJ l λn=>cond (Nat.ble n 1099511627776) (some (.str l)) none
 | .eql=>cH (JM a b)
 | .neq=>cH (qH (JM a b))
 | .lss=>cH (UD a b)
 | .leq=>cH (qH (UD b a))
 | .gtr=>cH (UD b a)
 | .geq=>cH (qH (UD a b))
 |_=>none
def jf (a b:Bool):Bool:=Bool.rec (qH b) b a
def eZ (op:BinOp) (r:Bool):Option NV:=
 match op with
 | .eql=>cH r
 | .neq=>cH (qH r)
 |_=>none
def kN (k:IntKind):Nat:=IntKind.rec 0 1 2 3 4 5 6 7 k
def EF (a b:IntKind):Bool:=Nat.beq (kN a) (kN b)
def fB (op:BinOp):Bool:=BinOp.rec false false false false false false false false true true false false false false false false false op
def aaK (op:BinOp) (k:IntKind) (a:Int) (k':IntKind) (b:Int):Option NV:=cond (fB op) (iK op k a b) (cond (EF k k') (iK op k a b) none)
def abK (op:BinOp) (k:IntKind) (a:Int) (k':IntKind) (y:SI):Option NV:=SI.rec (λb=>aaK op k a k' b) y
def acS (op:BinOp) (k:IntKind) (x:SI) (k':IntKind) (y:SI):Option NV:=SI.rec (λa=>abK op k a k' y) x
def Wp (op:BinOp) (x y:NV):Option NV:=NV.onIS none (λk a=>NV.onInt none (λk' b=>acS op k a k' b) y) (λs=>NV.onStr none (λu=>LG op s u) y) x
def TC (op:BinOp) (x y:NV):Option NV:=NV.onBool none (λa=>NV.onBool none (λb=>eZ op (jf a b)) y) x
def abZ (op:BinOp) (x y:NV):Option NV:=NV.nilP none (NV.nilP none (eZ op true) (eZ op false) y) (NV.nilP none (eZ op false) none y) x
def Yd (op:BinOp) (x y:NV):Option NV:=NV.nilS none (NV.nilS none (eZ op true) (eZ op false) y) (NV.nilS none (eZ op false) none y) x
def acN (op:BinOp) (x y:NV):Option NV:=NV.nilM none (NV.nilM none (eZ op true) (eZ op false) y) (NV.nilM none (eZ op false) none y) x
def acx (op:BinOp) (x y:NV):Option NV:=NV.nilF none (NV.nilF none (eZ op true) (eZ op false) y) (NV.nilF none (eZ op false) none y) x
def Zj (op:BinOp) (x y:NV):Option NV:=NV.nilI none (NV.nilI none (eZ op true) (eZ op false) y) (NV.nilI none (eZ op false) none y) x
def OW {R:Type} (F:R) (K:Nat->IntKind->Int->R) (v:NV):R:=
 match v with
 | .ifc t (.int k (.lit n))=>K t k n
 |_=>F
def I4 (t:Nat) (l:List Nat):Bool:=List.rec false (λu _ ih=>cond (Nat.beq t u) true ih) l
def U6 (ts:List Nat) (op:BinOp) (x y:NV):Option NV:=OW none (λt k a=>OW none (λu j b=>cond (Nat.beq t u) (cond (I4 t ts) (cond (EF k j) (eZ op (ww a b)) none) none) (eZ op false)) y) x
def bH (c:BC):BinOp->NV->NV->Option NV:=BC.rec Wp TC abZ Yd acN acx Zj U6 c
end
open Go
noncomputable section
def nO (l:List UInt8):Option (List Nat):=List.rec (some []) (λb _ ih=>Option.rec none (λt=>aG b.toNat λn=>some (n::t)) ih) l
def HV {R:Type} (k:IntKind) (K:IntKind->R):R:=
 match k with
 | .i8=>K .i8| .i16=>K .i16| .i32=>K .i32| .i64=>K .i64| .u8=>K .u8| .u16=>K .u16| .u32=>K .u32| .u64=>K .u64
def jV (ih:Value->Option NV) (l:List Value):Option (List NV):=
 List.rec (some []) (λv _ r=>Option.rec none (λv=>Option.rec none (λl=>some (v::l)) r) (ih v)) l
def mS (v:NV):Bool:=match v with| .agg _| .tup _=>false|_=>true
def flat (l:List NV):Bool:=List.rec true (λv _ ih=>cond (mS v) ih false) l
def pQ (ih:Value->Option NV) (v:Value):Option NV:=
 match v with
  | .bool true=>some (.bool true)
  | .bool false=>some (.bool false)
  | .int k n=>HV k λk=>cS k n
  | .string s=>match nO s.data.toList with|some l=>some (.str l)|none=>none
  | .pointer none=>some .nilp
  | .slice none 0 0=>some .nils
  | .map none=>some .nilm
  | .nilFunc=>some .nilf
  | .nilIface=>some .nili
  | .agg l=>match jV ih l.toList with|some l=>cond (flat l) (some (.agg l)) none|none=>none
  | .tuple l=>match jV ih l.toList with|some l=>some (.tup l)|none=>none
  |_=>none
def iH (d:Nat):Value->Option NV:=Nat.rec (λ_=>none) (λ_ ih=>pQ ih) d
def ofValue (v:Value):Option NV:=iH 3 v
def EE (P:Program) (t:TypeId):Option Bool:=match P.underlying t with|some (.int _)=>some false|some .string=>some true|_=>none
def zeroOf (P:Program) (t:TypeId):Option (List NV):=
 match P.info? t with
 |some i=>match i.zero with
  |some v=>match ofValue v with
   |some v=>match cellsOf v with
    |some cs=>dJ cs λn=>cond (Nat.beq n i.size) (some cs) none
    |none=>none
   |none=>none
  |none=>none
 |none=>none
def tS (P:Program) (t:TypeId):Option NV:=
 match P.info? t with
 |some i=>match i.zero with
  |some v=>ofValue v
  |none=>none
 |none=>none
def b9 (P:Program) (t:TypeId):Option Nat:=match P.info? t with|some i=>aG i.size some|none=>none
def jO (P:Program) (t:TypeId):Option Nat:=match P.info? t with|some i=>aG i.bytes some|none=>none
def Xa (d:TypeDesc):Bool:=match d with| .struct _| .array _ _=>true|_=>false
def nR (P:Program) (t:TypeId):Option (Option Nat):=
 match P.underlying t,b9 P t with
 |some d,some n=>cond (Xa d) (some (some n)) (cond (Nat.beq n 1) (some none) none)
 |_,_=>none
def NG:Nat:=0
def GN (_:Nat):Nat:=0
def aH:Operand->Option NOpd
 | .tmp t=>D4.ofNat t λt=>some (.tmp t)
 | .const v=>match ofValue v with|some v=>some (.const v)|none=>none
 | .func f=>aG f λf=>some (.const (.fn f []))
 | .global g=>cond (Nat.ble (Nat.succ g) NG) (D4.ofNat g λg=>some (.const (.ptr g 0))) none
def eT (l:List Operand):Option (List NOpd):=
 List.rec (some []) (λx _ r=>match aH x,r with|some x,some l=>some (x::l)|_,_=>none) l
def pj (P:Program) (s:TypeId) (f:Nat):Option Field:=
 match P.underlying s with
 |some (.struct fs)=>fs[f]?
 |_=>none
def eK (place:Nat->Option (Nat×Nat)) (l:List (Nat×Operand)):Option (List (Nat×Nat×NOpd)):=
 List.rec (some []) (λp _ r=>match place p.1,aH p.2,r with
  |some p,some x,some l=>aG p.1 λo=>aG p.2 λn=>some ((o,n,x)::l)
  |_,_,_=>none) l
def pw:Option Operand->Option (Option NOpd)
 |none=>some none
 |some x=>match aH x with|some x=>some (some x)|none=>none
def di (P:Program) (b:Builtin) (args:List NOpd) (ts:List TypeId):Option NOp:=
 match b,args,ts with
 | .len, [x], [t]=>match P.underlying t with
  |some .string=>some (.lenStr x)
  |some (.slice _)=>some (.lenSlc x)
  |some (.map _ _)=>none
  |some (.array n _)=>none
  |some (.pointer a)=>match P.underlying a with|some (.array n _)=>none|_=>none
  |_=>none
 | .min,l,_=>some (.minmax false l)
 | .max,l,_=>some (.minmax true l)
 | .append, [s,x], [t,u]=>match P.underlying t,P.underlying u with
  |some (.slice e),some (.slice _)=>match b9 P e,jO P e,zeroOf P e with
   |some n,some b,some _=>cond (Nat.ble 1 n) (aG e λe=>some (.append n b e s x)) none
   |_,_,_=>none
  |some (.slice e),some .string=>match b9 P e,jO P e,zeroOf P e with
   |some n,some b,some _=>cond (Nat.beq n 1&&Nat.beq b 1) (none) none
   |_,_,_=>none
  |_,_=>none
 | .copy, [d,s], [t,u]=>match P.underlying t,P.underlying u with
  |some (.slice e),some (.slice _)=>match b9 P e with|some n=>none|none=>none
  |_,_=>none
 | .delete, [m,k],t::_=>match P.underlying t with
  |some (.map kt _)=>match EE P kt with
   |some s=>none
   |none=>none
  |_=>none
 | .clear, [x], [t]=>match P.underlying t with
  |some (.slice e)=>match zeroOf P e with|some z=>some (.clearSlc z x)|none=>none
  |_=>none
 | .recover, [],_=>some .recover
 |_,_,_=>none
def iT (P:Program) (src dst:TypeId) (x:NOpd):Option NOp:=
 match P.underlying src,P.underlying dst with
 |some (.int _),some (.int k)=>HV k λk=>some (.toInt k x)
 |some .string,some .string=>none
 |some .string,some (.slice e)=>match P.underlying e with|some (.int .u8)=>aG e λe=>some (.strToBytes e x)|_=>none
 |some (.slice e),some .string=>match P.underlying e with|some (.int .u8)=>some (.bytesToStr x)|_=>none
 |some (.slice _),some (.slice e)=>match P.underlying e with|some (.int .u8)=>cond (Nat.beq src dst) (some (.sameSlc x)) none|_=>none
 |_,_=>none
def lP (P:Program) (l:List Field):Option (List (Nat×Nat)):=
 List.rec (some []) (λf _ r=>match b9 P f.type,r with|some n,some l=>some ((f.offset,n)::l)|_,_=>none) l
def jo (P:Program) (t:Nat):Bool:=
 match P.info? t,P.underlying t with
 |some i,some (.int _)=>i.comparable
 |_,_=>false
def rC (P:Program):List Nat:=Nat.rec [] (λt r=>cond (jo P t) (aG t λt=>t::r) r) P.types.size
def Gq (d:TypeDesc):Option BC:=
 match d with
 | .int _| .string=>some .num
 | .bool=>some .bool
 | .pointer _=>some .ptr
 | .slice _=>some .slc
 | .map _ _=>some .map
 | .func _ _ _=>some .fn
 |_=>none
def cY (x:Operand):Bool:=match x with| .const _=>true|_=>false
def iy (x:Operand):Option NOp:=match aH x with|some x=>some (.move x)|none=>none
def rM (c a b:Operand):Option NOp:=match aH c,aH a,aH b with|some c,some a,some b=>some (.pick c a b)|_,_,_=>none
def lp (P:Program) (t:TypeId):Option NOp:=match zeroOf P t with|some z=>aG t λt=>some (.alloc z t)|none=>none
def Ge (t:TypeId) (x:Operand):Option NOp:=match aH x with|some x=>aG t λt=>some (.box x t)|none=>none
def lh (P:Program) (t:TypeId) (ps:List (Nat×Operand)):Option NOp:=
 match zeroOf P t with
 |some z=>match P.underlying t with
  |some (.struct fs)=>match lP P fs.toList with
   |some pl=>match eK (kD pl) ps with
    |some l=>some (.build z l)
    |none=>none
   |none=>none
  |some (.array _ e)=>match b9 P e with
   |some n=>match eK (λi=>some (Nat.mul i n,n)) ps with
    |some l=>some (.build z l)
    |none=>none
   |none=>none
  |_=>none
 |none=>none
def dk (P:Program) (t:TypeId) (len:Nat) (ps:List (Nat×Operand)):Option NOp:=
 match P.underlying t with
 |some (.slice e)=>match zeroOf P e,b9 P e with
  |some z,some n=>match eK (λi=>some (Nat.mul i n,n)) ps with
   |some l=>cond (Nat.ble 1 n&&Nat.ble (Nat.mul len n) 16777216) (vH len z λz=>aG len λlen=>aG e λe=>some (.buildSlice z n len e l)) none
   |none=>none
  |_,_=>none
 |_=>none
def p9 (P:Program) (t:TypeId) (x:Operand):Option NOp:=
 match nR P t,aH x with
 |some none,some x=>some (.load1 x)
 |some (some n),some x=>some (.loadN n x)
 |_,_=>none
def lc (P:Program) (t:TypeId) (a x:Operand):Option NOp:=
 match b9 P t,aH a,aH x with
 |some n,some a,some x=>some (.store n a x)
 |_,_,_=>none
def eH (x:Operand):Option NOp:=match aH x with|some x=>some (.nilCheck x)|none=>none
def Gw (P:Program) (op:BinOp) (t:TypeId) (x' y':Operand):Option NOp:=
 match aH x',aH y' with
 |some x,some y=>match P.underlying t with
  |some (.struct _)=>none
  |some (.interface _)=>cond (cY x'||cY y') (some (.bin .ifc op x y)) (some (.bin (.ifc2 (rC P)) op x y))
  |some d=>match Gq d with|some c=>some (.bin c op x y)|none=>none
  |none=>none
 |_,_=>none
def U7 (op:UnOp) (x:Operand):Option NOp:=match aH x with|some x=>some (.un op x)|none=>none
def rJ (P:Program) (src dst:TypeId) (x:Operand):Option NOp:=match aH x with|some x=>iT P src dst x|none=>none
def Fb (P:Program) (t:TypeId) (x:Operand):Option NOp:=
 match P.underlying t,aH x with
 |some (.interface _),_=>none
 |some _,some x=>aG t λt=>some (.mkIfc t x)
 |_,_=>none
def pW (f:FuncId) (first caps:List Operand):Option NOp:=
 match first,eT caps with
 | [],some l=>aG f λf=>some (.mkFn f l)
 |_,_=>none
def fW (P:Program) (t:TypeId) (l c:Operand):Option NOp:=
 match P.underlying t with
 |some (.slice e)=>match zeroOf P e,b9 P e,jO P e,aH l,aH c with
  |some z,some n,some b,some l,some c=>cond (Nat.ble 1 n) (aG e λe=>some (.mkSlice z n b e l c)) none
  |_,_,_,_,_=>none
 |_=>none
def ly (P:Program) (t:TypeId) (x:Operand) (lo hi:Option Operand):Option NOp:=
 match P.underlying t,aH x,pw lo,pw hi with
 |some .string,some x,some lo,some hi=>some (.sliceStr x lo hi)
 |some (.slice e),some x,some lo,some hi=>match b9 P e with|some n=>some (.sliceSlc n x lo hi)|none=>none
 |_,_,_,_=>none
def jc (P:Program) (t:TypeId) (x lo hi mx:Operand):Option NOp:=
 match P.underlying t,aH x,aH lo,aH hi,aH mx with
 |some (.slice e),some x,some lo,some hi,some mx=>match b9 P e with|some n=>none|none=>none
 |_,_,_,_,_=>none
def dS (P:Program) (s:TypeId) (x:Operand) (f:Nat):Option NOp:=
 match pj P s f,aH x with
 |some f,some x=>match b9 P f.type with
  |some n=>cond (Nat.ble 1 n) (aG f.offset λo=>some (.fieldAddr o x)) none
  |none=>none
 |_,_=>none
def lg (P:Program) (s:TypeId) (x:Operand) (f:Nat):Option NOp:=
 match pj P s f,aH x with
 |some f,some x=>match nR P f.type with
  |some none=>aG f.offset λo=>some (.field1 o x)
  |some (some n)=>aG f.offset λo=>some (.fieldN o n x)
  |none=>none
 |_,_=>none
def dR (P:Program) (t:TypeId) (x i:Operand):Option NOp:=
 match P.underlying t,aH x,aH i with
 |some (.array n e),some x,some i=>match b9 P e with|some s=>none|none=>none
 |some (.slice e),some x,some i=>match b9 P e with|some s=>some (.indexSlc s x i)|none=>none
 |_,_,_=>none
def kO (P:Program) (t:TypeId) (x i:Operand):Option NOp:=
 match P.underlying t,aH x,aH i with
 |some .string,some x,some i=>some (.indexStr x i)
 |some (.array n e),some x,some i=>match nR P e with
  |some m=>none
  |none=>none
 |_,_,_=>none
def jg (P:Program) (t:TypeId) (x i:Operand) (ok:Bool):Option NOp:=
 match P.underlying t,aH x,aH i with
 |some (.map k e),some x,some i=>match tS P e,EE P k with
  |some z,some s=>some (.lookup s z ok x i)
  |_,_=>none
 |_,_,_=>none
def bA (P:Program) (t:TypeId) (m k v:Operand):Option NOp:=
 match P.underlying t,aH m,aH k,aH v with
 |some (.map kt _),some m,some k,some v=>match EE P kt with
  |some s=>some (.mapUpdate s m k v)
  |none=>none
 |_,_,_,_=>none
def jp (P:Program) (t:TypeId) (x:Operand):Option NOp:=
 match P.underlying t,tS P t,aH x with
 |some (.interface _),_,_=>none
 |some _,some z,some x=>aG t λt=>some (.typeAssert t z x)
 |_,_,_=>none
def gk (x:Operand) (i:Nat):Option NOp:=match aH x with|some x=>aG i λi=>some (.extract x i)|none=>none
def lq (x:Operand):Option NOp:=match aH x with|some x=>some (.panic x)|none=>none
def rU (f:Operand) (args:List Operand):Option NOp:=
 match aH f,eT args with
 |some f,some l=>some (.call f l)
 |_,_=>none
def gu (P:Program) (b:Builtin) (args:List Operand) (ts:List TypeId):Option NOp:=
 match eT args with
 |some l=>di P b l ts
 |none=>none
def gO (f:Operand) (args:List Operand):Option NOp:=
 match args,aH f with
 | [],some f=>some (.defer f)
 |_,_=>none
def ax (P:Program) (o:Op):Option NOp:=
 match o with
 | .move x| .assign x=>iy x
 | .pick c a b=>rM c a b
 | .alloc t=>lp P t
 | .box t x=>Ge t x
 | .build t ps=>lh P t ps.toList
 | .buildSlice t len ps=>dk P t len ps.toList
 | .load t x=>p9 P t x
 | .store t a x=>lc P t a x
 | .nilCheck x=>eH x
 | .binOp op t x y _=>Gw P op t x y
 | .unOp op _ x=>U7 op x
 | .convert src dst x=>rJ P src dst x
 | .makeInterface t x=>Fb P t x
 | .makeFunc (.func f) first caps=>pW f first.toList caps.toList
 | .makeMap _ none=>some .mkMap
 | .makeSlice t l c=>fW P t l c
 | .slice t x lo hi none=>ly P t x lo hi
 | .slice t x (some lo) (some hi) (some mx)=>jc P t x lo hi mx
 | .fieldAddr s x f=>dS P s x f
 | .field s x f=>lg P s x f
 | .indexAddr t x i=>dR P t x i
 | .index t x i=>kO P t x i
 | .lookup t x i ok=>jg P t x i ok
 | .mapUpdate t m k v=>bA P t m k v
 | .insert t m k v=>bA P t m k v
 | .typeAssert x _ t true=>jp P t x
 | .extract x i=>gk x i
 | .panic x=>lq x
 | .call {callee:= .value f,args,..}=>rU f args.toList
 | .call {callee:= .builtin b,args,argTypes}=>gu P b args.toList argTypes.toList
 | .defer {callee:= .value f,args,..}=>gO f args.toList
 |_=>none
def Ea (ops:Array Oper) (j:Nat):Option Nat:=match ops[j]? with|some o=>o.dst|none=>none
def aah (d:Option Nat):Option (Option D4):=match d with|some d=>D4.ofNat d λd=>some (some d)|none=>some none
def jK (P:Program) (ops:Array Oper) (o:Oper) (pre idx:Nat):Option NOper:=
 match aah o.dst,(match ax P o.op with|some n=>some n|none=>some .fail) with
 |some d,some n=>aG idx λidx=>match o.guard with
  |none=>aG pre λpre=>some ⟨d,n,none,pre,idx⟩
  |some (j,true)=>match Ea ops j with
   |some t=>aG pre λpre=>D4.ofNat t λt=>some ⟨d,n,some (t,true),pre,idx⟩
   |none=>none
  |some (j,false)=>match Ea ops j with
   |some t=>aG pre λpre=>D4.ofNat t λt=>some ⟨d,n,some (t,false),pre,idx⟩
   |none=>none
 |_,_=>none
def dW (P:Program) (ops:Array Oper) (l:List Oper):Nat->List Nat->Option (List NOper):=
 List.rec (λ_ _=>some []) (λo _ r i pre=>match jK P ops o (pre.headD 0) i,r (Nat.succ i) pre.tail with|some o,some l=>some (o::l)|_,_=>none) l
inductive jx where|pure|read|alloc|eff
def aB (o:NOp):jx:=
 match o with
 | .load1 _| .loadN _ _| .lookup ..| .bytesToStr _| .lenMap _=> .read
 | .alloc ..| .box ..| .buildSlice ..| .mkMap| .mkSlice ..| .strToBytes ..=> .alloc
 | .store ..| .mapUpdate ..| .call ..| .defer _| .panic _| .recover| .append ..| .appendStr ..| .copy ..| .delete ..| .clearSlc ..| .sameSlc _| .rangeMap _| .nextMap _| .entryMap _| .fail=> .eff
 |_=> .pure
def HU (c:jx):Bool:=match c with| .eff=>true|_=>false
def Kc (l:List NOper):List Nat:=List.rec [] (λo _ r=>Bool.rec r (o.idx::r) (HU (aB o.op))) l
def Mj (pre:Nat) (es:List Nat):Nat:=List.rec 0 (λe _ r=>aG r λr=>Bool.rec r (Nat.succ r) (Nat.testBit pre e)) es
def lC (k:Nat) (es:List Nat) (eff:Bool) (l rest:List NOper):List NOper:=
 List.rec rest (λo _ r=>Bool.rec r (o::r) (Bool.rec false (Nat.beq (Mj o.pre es) k) (Bool.rec (Bool.rec true false eff) eff (HU (aB o.op))))) l
def EW (es:List Nat) (l:List NOper) (ks:List Nat):Nat->List NOper:=
 List.rec (λk=>lC k es false l []) (λ_ _ r k=>lC k es false l (lC k es true l (aG (Nat.succ k) r))) ks
def TS (l:List NOper):List NOper:=EW (Kc l) l (Kc l) 0
def Ed (l:List NOper):Nat->Option Nat:=
 List.rec (λm=>some m) (λo _ r m=>cond (Nat.testBit m o.idx) none (cond (Nat.beq (Nat.land o.pre m) o.pre) (aG (Nat.lor m (Nat.pow 2 o.idx)) r) none)) l
def w9 (o:Option Nat) (k:Nat):Bool:=match o with|some m=>Nat.beq m k|none=>false
def Gc {α R:Type} (l:List α) (K:List α->R):R:=List.rec (motive:=λ_=>(List α->R)->R) (λK=>K []) (λa _ ih K=>ih λt=>K (a::t)) l K
def jv (t:Nat) (l:List Oper):Nat:=List.rec 0 (λo _ r=>match o.dst with|some d=>Bool.rec r (Nat.succ r) (Nat.beq d t)|none=>r) l
def Gr (l:List Oper):Bool:=
 List.rec (motive:=λ_=>List Oper->Bool) (λ_=>true) (λo _ r all=>match o.dst with
  |some t=>cond (Nat.beq (jv t all) 1) (r all) false
  |none=>r all) l l
def xT (l:List Nat):Option (List D4):=List.rec (some []) (λb _ ih=>Option.rec none (λt=>D4.ofNat b λn=>some (n::t)) ih) l
def cZ (P:Program):Code->Option NC
 | .skip=>some .skip
 | .region _ ops false=>match dW P ops ops.toList 0 [] with|some l=>some (.reg l)|none=>none
 | .region _ ops true=>match dW P ops ops.toList 0 (Region.before ops).toList with
  |some l=>Gc (TS l) λe=>cond (w9 (Ed e 0) (Nat.sub (Nat.pow 2 ops.size) 1)&&Gr ops.toList) (some (.regD e)) none
  |none=>none
 | .seq a b=>match cZ P a with|some a=>(match cZ P b with|some b=>some (.seq a b)|none=>none)|none=>none
 | .cond c a b=>match aH c with
  |some c=>(match cZ P a with|some a=>(match cZ P b with|some b=>some (.cond c a b)|none=>none)|none=>none)
  |none=>none
 | .block id a=>match cZ P a with|some a=>aG id λid=>some (.block id a)|none=>none
 | .loop a=>match cZ P a with|some a=>some (.loop a)|none=>none
 | .rangeFunc f ps a b=>match aH f,xT ps.toList with
  |some f,some ps=>(match cZ P a with|some a=>(match cZ P b with|some b=>some (.rangeFunc f ps a b)|none=>none)|none=>none)
  |_,_=>none
 | .exit id=>aG id λid=>some (.exit id)
 | .ret=>some .ret
 |_=>none
def du (P:Program) (l:List ResultVar):Option (List NRes):=
 List.rec (some []) (λr _ ih=>match r,ih with
  | .tmp t,some l=>D4.ofNat t λt=>some (.tmp t::l)
  | .cell t ty,some l=>(match nR P ty with
   |some none=>D4.ofNat t λt=>some (.cell1 t::l)
   |some (some n)=>D4.ofNat t λt=>some (.cellN t n::l)
   |none=>none)
  |_,none=>none) l
inductive Ext where|add64|idxByte|cntByte
inductive NFn where
 |code (f:NFun)
 |ext (e:Ext)
def HI (fn:Func):Option Ext:=
 cond (fn.origin== "") (cond (fn.name== "math/bits.Add64") (some .add64) (cond (fn.name== "internal/bytealg.IndexByteString") (some .idxByte) (cond (fn.name== "internal/bytealg.CountString") (some .cntByte) none))) none
def af (P:Program) (f:Nat):Option NFn:=
 match P.funcs[f]? with
 |some fn=>cond (fn.name== "runtime.NumGoroutine") none
  (match fn.body with
  |some c=>match cZ P c,du P fn.results.toList with
   |some b,some r=>aG fn.ntmps λn=>some (.code ⟨b,n,r⟩)
   |_,_=>none
  |none=>match HI fn with
   |some e=>some (.ext e)
   |none=>none)
 |none=>none
end
open Go
noncomputable section
instance:Coe Program (Nat->Option NFn):=⟨af⟩
inductive NR where
 |fail
 |val (v:NV)
 |mem (v:NV) (h:NH)
 |call (f:Nat) (args:List NV)
 |yld (l:D4) (args:List NV)
 |pan (v:NV)
 |dfr (f:Nat) (cap:List NV)
 |recov
abbrev Tm:=NT NV
def ρ (t:Tm):NOpd->Option NV:=NOpd.rec (λd=>NT.get d t) some
def wV (t:Tm) (x:NOpd) (K:NV->NR):NR:=Option.rec .fail K (ρ t x)
def Fz {R:Type} (t:Tm) (l:List NOpd) (F:R) (K:List NV->R):R:=
 List.rec (motive:=λ_=>(List NV->R)->R) (λK=>K []) (λx _ ih K=>Option.rec F (λv=>ih λl=>K (v::l)) (ρ t x)) l K
def vr (o:Option NV):NR:=Option.rec .fail .val o
def cM (t:Tm) (ps:List (Nat×Nat×NOpd)):Nat->List NV->Option (List NV):=
 List.rec (λ_ l=>some l)
  (λp _ ih cur l=>Option.rec none (λv:NV=>Option.rec none (λcs=>dJ cs λk=>cond (Nat.beq k p.2.1) (cond (Nat.ble cur p.1)
   (gT (Nat.sub p.1 cur) (λl=>Option.rec none (λl=>Option.rec none (λl=>iM cs l some) (ih (Nat.add p.1 k) l)) (dN k l)) l) none) none) (cellsOf v)) (ρ t p.2.2)) ps
def cX (t:Tm) (ps:List (Nat×Nat×NOpd)):List NV->Option (List NV):=
 List.rec some
  (λp _ ih l=>Option.rec none (λv:NV=>Option.rec none (λcs=>dJ cs λk=>cond (Nat.beq k p.2.1) (Option.rec none ih (dx cs p.1 l)) none) (cellsOf v)) (ρ t p.2.2)) ps
def cz (h:NH) (id:D4) (K:List NV->NR):NR:=match h.get id with|some (.cells _ c)=>K c|_=> .fail
def eA (h:NH) (id:D4) (K:List NV->NR):NR:=match h.get id with|some (.cells w c)=>cond w (K c) .fail|_=> .fail
def aS {α:Type} (o:Option α) (K:α->NR):NR:=Option.rec .fail K o
def storeAt (h:NH) (id:D4) (off:Nat) (vs:List NV) (K:NH->NR):NR:=
 eA h id λc=>aS (dx vs off c) λc=>h.set id (.cells true c) K
def kJ (v:NV):Option Nat:=match v with| .int _ (.lit (.ofNat n))=>some n|_=>none
def gR (t:Tm) (x:NOpd) (K:Nat->NR):NR:=wV t x λv=>aS (kJ v) K
def jw (s:Bool) (a b:NV):Option Bool:=
 match s,a,b with
 |false,.int k (.lit x),.int k' (.lit y)=>cond (EF k k') (some (ww x y)) none
 |true,.str x,.str y=>some (JM x y)
 |_,_,_=>none
def gP (s:Bool) (k:NV):List (NV×NV)->Option (Option NV):=
 List.rec (some none) (λe _ ih=>Option.rec none (λb=>cond b (some (some e.2)) ih) (jw s k e.1))
def mN (s:Bool) (k v:NV):List (NV×NV)->Option (List (NV×NV)):=
 List.rec (some [(k,v)]) (λe t ih=>Option.rec none (λb=>cond b (some ((k,v)::t)) (Option.rec none (λt=>some (e::t)) ih)) (jw s k e.1))
def unV (op:UnOp) (x:NV):Option NV:=
 match op,x with
 | .not,.bool b=>cH (qH b)
 | .neg,.int k (.lit n)=>cS k (bM k (Fd 0 n))
 | .xor,.int k (.lit n)=>iK .xor k (if k.signed then -1 else k.max) n
 |_,_=>none
def IF (mx:Bool) (a b:NV):Option NV:=
 match a,b with
 | .int k (.lit a),.int _ (.lit b)=>cond (cond mx (El a b) (El b a)) (some (.int k (.lit b))) (some (.int k (.lit a)))
 |_,_=>none
def If (mx:Bool) (l:List NV):Option NV:=
 match l with
 | []=>none
 |x::l=>List.rec (motive:=λ_=>NV->Option NV) some (λy _ ih a=>Option.rec none ih (IF mx a y)) l x
def DA (b:List Nat) (K:List NV->NR):NR:=List.rec (motive:=λ_=>(List NV->NR)->NR) (λK=>K []) (λx _ ih K=>ih λl=>K (.int .u8 (.lit (.ofNat x))::l)) b K
def RJ (v:NV) (r:Option (List Nat)):Option (List Nat):=match v,r with| .int .u8 (.lit (.ofNat x)),some t=>cond (Nat.ble x 255) (some (x::t)) none|_,_=>none
def eN (l:List NV):Option (List Nat):=List.rec (some []) (λv _ ih=>RJ v ih) l
def iq (n:Nat) (h:NH) (v:NV) (K:Nat->List NV->NR):NR:=
 match v with
 | .nils=>K 0 []
 | .slc id off len esz _=>cond (Nat.beq esz n) (cz h id λc=>aS (fC c off (Nat.mul len n)) λl=>K len l) .fail
 |_=> .fail
def room (n bytes:Nat):Bool:=cond (Nat.ble (Nat.mul n bytes) 1099511627776) (Nat.ble n 1099511627776) false
def ia (esz bytes:Nat) (h:NH) (s:NV) (m:Nat) (new:List NV):NR:=
 match s with
 | .nils=>Nat.rec (.val .nils) (λ_ _=>cond (room m bytes) (h.new (.cells true new) λid h=> .mem (.slc id 0 m esz m) h) .fail) m
 | .slc id off len e kc=>cond (Nat.beq e esz)
  (Nat.rec (.val s)
   (λ_ _=>eA h id λc=>aG (Nat.add len m) λn=>cond (Nat.ble n kc)
    (aS (dx new (Nat.add off (Nat.mul len esz)) c) λc=>h.set id (.cells true c) λh=> .mem (.slc id off n esz kc) h)
    (aS (dN off c) λc=>aS (jt (Nat.mul len esz) c) λold=>cond (room n bytes)
     (iM old new λl=>h.set id .dead λh=>h.new (.cells true l) λid h=> .mem (.slc id 0 n esz n) h) .fail)) m) .fail
 |_=> .fail
def Vb (_:Tm) (_:NH):NR:= .fail
def ED (x:NOpd) (t:Tm) (_:NH):NR:=wV t x .val
def Fy (c a b:NOpd) (t:Tm) (_:NH):NR:=wV t c λc=>match c with| .bool c=>Bool.rec (wV t b .val) (wV t a .val) c|_=> .fail
def uF (z:List NV) (_:Nat) (_:Tm) (h:NH):NR:=h.new (.cells true z) λid h=> .mem (.ptr id 0) h
def KP (x:NOpd) (_:Nat) (t:Tm) (h:NH):NR:=wV t x λv=>aS (cellsOf v) λcs=>h.new (.cells true cs) λid h=> .mem (.ptr id 0) h
def mn (z:List NV) (ps:List (Nat×Nat×NOpd)) (t:Tm) (_:NH):NR:=aS (cX t ps z) λl=> .val (.agg l)
def iZ (z:List NV) (n len _:Nat) (ps:List (Nat×Nat×NOpd)) (t:Tm) (h:NH):NR:=aS (cM t ps 0 z) λl=>h.new (.cells true l) λid h=> .mem (.slc id 0 len n len) h
def gY (x:NOpd) (t:Tm) (h:NH):NR:=wV t x λa=>match a with| .ptr id off=>cz h id λc=>aS (kD c off) .val|_=> .fail
def ig (n:Nat) (x:NOpd) (t:Tm) (h:NH):NR:=wV t x λa=>match a with| .ptr id off=>cz h id λc=>aS (fC c off n) λl=> .val (.agg l)|_=> .fail
def vL (n:Nat) (a x:NOpd) (t:Tm) (h:NH):NR:=wV t a λa=>wV t x λv=>match a with
 | .ptr id off=>aS (cellsOf v) λcs=>dJ cs λk=>cond (Nat.beq k n) (storeAt h id off cs λh=> .mem aK h) .fail
 |_=> .fail
def kU (x:NOpd) (t:Tm) (_:NH):NR:=wV t x λv=>match v with| .ptr i o=> .val (.ptr i o)| .fn f c=> .val (.fn f c)| .yld l=> .val (.yld l)|_=> .fail
def OI (c:BC) (op:BinOp) (x y:NOpd) (t:Tm) (_:NH):NR:=wV t x λa=>wV t y λb=>vr (bH c op a b)
def Sj (_:Bool) (_:List EK) (_ _:NOpd) (_:Tm) (_:NH):NR:= .fail
def U9 (op:UnOp) (x:NOpd) (t:Tm) (_:NH):NR:=wV t x λv=>vr (unV op v)
def vm (k:IntKind) (x:NOpd) (t:Tm) (_:NH):NR:=wV t x λv=>match v with| .int _ (.lit n)=>vr (cS k (bM k n))|_=> .fail
def jr (_:Nat) (x:NOpd) (t:Tm) (h:NH):NR:=wV t x λv=>match v with| .str s=>DA s λl=>dJ s λn=>cond (Nat.ble n 1099511627776) (h.new (.cells false l) λid h=> .mem (.slc id 0 n 1 n) h) .fail|_=> .fail
def iW (x:NOpd) (t:Tm) (h:NH):NR:=wV t x λv=>iq 1 h v λ_ l=>aS (eN l) λs=> .val (.str s)
def nM (x:NOpd) (t:Tm) (h:NH):NR:=wV t x λv=>match v with| .slc id off len e kc=>cond (Nat.ble 1 len) (eA h id λc=>h.set id (.cells false c) λh=> .mem (.slc id off len e kc) h) .fail|_=> .fail
def Q8 (_:NOpd) (_:Tm) (_:NH):NR:= .fail
def vV (ty:Nat) (x:NOpd) (t:Tm) (_:NH):NR:=wV t x λv=> .val (.ifc ty v)
def Fq (f:Nat) (l:List NOpd) (t:Tm) (_:NH):NR:=Fz t l .fail λl=> .val (.fn f l)
def ud (_:Tm) (h:NH):NR:=h.new (.map []) λid h=> .mem (.map id) h
def nC (z:List NV) (n bytes _:Nat) (l c:NOpd) (t:Tm) (h:NH):NR:=gR t l λl=>gR t c λc=>
 cond (Nat.ble l c) (cond (room c bytes) (vH c z λcs=>h.new (.cells true cs) λid h=> .mem (.slc id 0 l n c) h) .fail) .fail
def dD (t:Tm) (x:Option NOpd) (d:Nat) (K:Nat->NR):NR:=Option.rec (K d) (λx=>gR t x K) x
def lf (x:NOpd) (lo hi:Option NOpd) (t:Tm) (_:NH):NR:=wV t x λv=>match v with
 | .str s=>dJ s λn=>dD t hi n λb=>dD t lo 0 λa=>cond (Nat.ble a b) (aS (jt b s) λs=>aS (dN a s) λs=> .val (.str s)) .fail
 |_=> .fail
def li (n:Nat) (x:NOpd) (lo hi:Option NOpd) (t:Tm) (_:NH):NR:=wV t x λv=>match v with
 | .slc id off len e kc=>dD t hi len λb=>dD t lo 0 λa=>cond (Nat.ble a b) (cond (Nat.ble b (Bool.rec kc len (Nat.ble kc len))) (cond (Nat.beq e n)
  (aG (Nat.add off (Nat.mul a n)) λo=>aG (Nat.sub b a) λm=>aG (Nat.sub kc a) λk=> .val (.slc id o m n k)) .fail) .fail) .fail
 | .nils=>dD t hi 0 λb=>dD t lo 0 λa=>cond (Nat.beq a 0) (cond (Nat.beq b 0) (.val .nils) .fail) .fail
 |_=> .fail
def FZ (_:Nat) (_ _ _ _:NOpd) (_:Tm) (_:NH):NR:= .fail
def jD (off:Nat) (x:NOpd) (t:Tm) (_:NH):NR:=wV t x λv=>match v with| .ptr id o=>aG (Nat.add o off) λo=> .val (.ptr id o)|_=> .fail
def qr (off:Nat) (x:NOpd) (t:Tm) (_:NH):NR:=wV t x λv=>match v with| .agg l=>aS (kD l off) .val|_=> .fail
def qR (off n:Nat) (x:NOpd) (t:Tm) (_:NH):NR:=wV t x λv=>match v with| .agg l=>aS (fC l off n) λl=> .val (.agg l)|_=> .fail
def lr (n:Nat) (x i:NOpd) (t:Tm) (_:NH):NR:=wV t x λv=>gR t i λi=>match v with
 | .slc id off len _ _=>cond (Nat.ble (Nat.succ i) len) (aG (Nat.add off (Nat.mul i n)) λo=> .val (.ptr id o)) .fail
 |_=> .fail
def F6 (_ _:Nat) (_ _:NOpd) (_:Tm) (_:NH):NR:= .fail
def lx (x i:NOpd) (t:Tm) (_:NH):NR:=wV t x λv=>gR t i λi=>match v with
 | .str s=>aS (kD s i) λb=> .val (.int .u8 (.lit (.ofNat b)))
 |_=> .fail
def qO (h:NH) (v:NV) (K:List (NV×NV)->NR):NR:=
 match v with
 | .nilm=>K []
 | .map id=>match h.get id with|some (.map l)=>K l|_=> .fail
 |_=> .fail
def qk (s:Bool) (z:NV) (ok:Bool) (x i:NOpd) (t:Tm) (h:NH):NR:=wV t x λm=>wV t i λk=>qO h m λl=>aS (gP s k l) λr=>
 Option.rec (Bool.rec (.val z) (.val (.tup [z,.bool false])) ok) (λv=>Bool.rec (.val v) (.val (.tup [v,.bool true])) ok) r
def jC (s:Bool) (m k v:NOpd) (t:Tm) (h:NH):NR:=wV t m λm=>wV t k λk=>wV t v λv=>match m with
 | .map id=>qO h (.map id) λl=>aS (mN s k v l) λl=>h.set id (.map l) λh=> .mem aK h
 |_=> .fail
def iV (ty:Nat) (z:NV) (x:NOpd) (t:Tm) (_:NH):NR:=wV t x λv=>match v with
 | .ifc u v=>cond (Nat.beq u ty) (.val (.tup [v,.bool true])) (.val (.tup [z,.bool false]))
 | .nili=> .val (.tup [z,.bool false])
 |_=> .fail
def mP (x:NOpd) (i:Nat) (t:Tm) (_:NH):NR:=wV t x λv=>match v with| .tup l=>aS (kD l i) .val|_=> .fail
def ET (f:NOpd) (args:List NOpd) (t:Tm) (_:NH):NR:=wV t f λf=>Fz t args .fail λl=>match f with
 | .fn f cap=>iM l cap λl=> .call f l
 | .yld r=> .yld r l
 |_=> .fail
def uA (f:NOpd) (t:Tm) (_:NH):NR:=wV t f λf=>match f with| .fn f cap=> .dfr f cap|_=> .fail
def uY (x:NOpd) (t:Tm) (_:NH):NR:=wV t x λv=>match v with| .ifc ty v=> .pan (.ifc ty v)|_=> .fail
def I6 (_:Tm) (_:NH):NR:= .recov
def qc (x:NOpd) (t:Tm) (_:NH):NR:=wV t x λv=>match v with| .str s=>dJ s λn=> .val (.int .i64 (.lit (.ofNat n)))|_=> .fail
def qi (x:NOpd) (t:Tm) (_:NH):NR:=wV t x λv=>match v with| .slc _ _ n _ _=> .val (.int .i64 (.lit (.ofNat n)))| .nils=> .val (.int .i64 (.lit (.ofNat 0)))|_=> .fail
def La (_:NOpd) (_:Tm) (_:NH):NR:= .fail
def OZ (_:Nat) (_:Tm) (_:NH):NR:= .fail
def qU (mx:Bool) (l:List NOpd) (t:Tm) (_:NH):NR:=Fz t l .fail λl=>aS (If mx l) .val
def rN (n bytes _:Nat) (s x:NOpd) (t:Tm) (h:NH):NR:=wV t s λs=>wV t x λx=>iq n h x λm new=>ia n bytes h s m new
def DF (_:Nat) (_ _:NOpd) (_:Tm) (_:NH):NR:= .fail
def W6 (_:Nat) (_ _:NOpd) (_:Tm) (_:NH):NR:= .fail
def Mu (_:Bool) (_ _:NOpd) (_:Tm) (_:NH):NR:= .fail
def kZ (z:List NV) (x:NOpd) (t:Tm) (h:NH):NR:=wV t x λv=>match v with
 | .nils=> .val aK
 | .slc id off len _ _=>Nat.rec (.val aK) (λ_ _=>vH len z λl=>storeAt h id off l λh=> .mem aK h) len
 |_=> .fail
def GD (x:NOpd) (t:Tm) (h:NH):NR:=wV t x λv=>qO h v λl=>match l with
 | []=>h.new (.iter [] none) λid h=> .mem (.ptr id 0) h
 | [e]=>h.new (.iter [e] none) λid h=> .mem (.ptr id 0) h
 |_=> .fail
def Jb (x:NOpd) (t:Tm) (h:NH):NR:=wV t x λv=>match v with
 | .ptr id _=>match h.get id with
  |some (.iter [] _)=> .val (.tup [.bool false])
  |some (.iter (e::_) _)=>h.set id (.iter [] (some e)) λh=> .mem (.tup [.bool true,e.1,e.2]) h
  |_=> .fail
 |_=> .fail
def F1 (x:NOpd) (t:Tm) (h:NH):NR:=wV t x λv=>match v with
 | .ptr id _=>match h.get id with
  |some (.iter [] (some e))=> .val (.tup [e.1,e.2])
  |_=> .fail
 |_=> .fail
def GQ (_:Option Nat) (_:Nat) (_ _:NOpd) (_:Tm) (_:NH):NR:= .fail
def ai (o:NOp):Tm->NH->NR:=
 NOp.rec (motive:=λ_=>Tm->NH->NR) Vb ED Fy uF KP mn iZ gY ig vL kU OI Sj U9 vm jr iW nM Q8 vV Fq ud nC
  lf li FZ jD qr qR lr F6 lx qk jC iV mP ET uA uY I6 qc qi La OZ qU rN DF
  W6 Mu kZ GD Jb F1 GQ o
inductive Out where
 |norm|ret|exit (id:Nat)|pan (v:NV)
inductive Dfr where
 |call (f:Nat) (cap:List NV)
 |mark (id:D4)
structure Dyn where
 t:Tm
 dfs:List Dfr
 ctx:Option NV
 h:NH
inductive Res where
 |fail
 |mk (o:Out) (d:Dyn)
inductive CR where
 |fail
 |val (v:NV) (ctx:Option NV) (h:NH)
 |pan (v:NV) (ctx:Option NV) (h:NH)
def jY {R:Type} (d:Option D4) (v:NV) (t:Tm) (K:Tm->R):R:=Option.rec (K t) (λk=>NT.set k v t K) d
def ec {R:Type} (F:R) (ps:List D4) (vs:List NV) (t:Tm) (K:Tm->R):R:=
 List.rec (motive:=λ_=>List NV->Tm->R) (λvs t=>List.rec (K t) (λ_ _ _=>F) vs)
  (λp _ ih vs t=>List.rec F (λv vs _=>NT.set p v t λt=>ih vs t) vs) ps vs t
def NZ {R:Type} (vs:List NV) (K:Tm->R):R:=
 List.rec (motive:=λ_=>D4->Tm->R) (λ_ t=>K t) (λv _ ih k t=>NT.set k v t λt=>k.succ λk=>ih k t) vs .e .leaf
def cD (h:NH) (t:Tm) (l:List NRes) (F:CR) (K:List NV->CR):CR:=
 List.rec (motive:=λ_=>(List NV->CR)->CR) (λK=>K []) (λr _ ih K=>
  match (match r with
   | .tmp k=>(match NT.get k t with|some v=>NR.val v|none=> .fail)
   | .cell1 k=>gY (.tmp k) t h
   | .cellN k n=>ig n (.tmp k) t h) with
  | .val v=>ih λl=>K (v::l)
  |_=>F) l K
def gS (l:List NV):NV:=match l with| [v]=>v|l=> .tup l
def pb (c:Nat) (l:List Nat):Nat->Option Nat:=List.rec (λ_=>none) (λx _ ih i=>cond (Nat.beq x c) (some i) (aG (Nat.succ i) ih)) l
def Pq (c:Nat) (l:List Nat):Nat->Nat:=List.rec (λn=>n) (λx _ ih n=>cond (Nat.beq x c) (aG (Nat.succ n) ih) (ih n)) l
def gI (e:Ext) (args:List NV):Option NV:=
 match e,args with
 | .add64, [.int .u64 (.lit (.ofNat x)),.int .u64 (.lit (.ofNat y)),.int .u64 (.lit (.ofNat c))]=>cond (Nat.ble c 1)
  (aG (Nat.mod (Nat.add (Nat.add x y) c) 18446744073709551616) λa=>aG (Nat.div (Nat.add (Nat.add x y) c) 18446744073709551616) λb=>some (.tup [.int .u64 (.lit (.ofNat a)),.int .u64 (.lit (.ofNat b))])) none
 | .idxByte, [.str s,.int .u8 (.lit (.ofNat c))]=>cond (Nat.ble c 255) (match pb c s 0 with
  |some i=>some (.int .i64 (.lit (.ofNat i)))
  |none=>some (.int .i64 (.lit (.negSucc 0)))) none
 | .cntByte, [.str s,.int .u8 (.lit (.ofNat c))]=>cond (Nat.ble c 255) (some (.int .i64 (.lit (.ofNat (Pq c s 0))))) none
 |_,_=>none
def eV (ih:NV->NV->Bool) (a b:List NV):Bool:=
 List.rec (motive:=λ_=>List NV->Bool) (λb=>List.rec true (λ_ _ _=>false) b) (λx _ r b=>List.rec false (λy t _=>cond (ih x y) (r t) false) b) a b
def bo (a b:D4):Bool:=D4.rec (motive:=λ_=>D4->Bool)
 (λb=>match b with| .e=>true|_=>false) (λ_ ih b=>match b with| .a b=>ih b|_=>false) (λ_ ih b=>match b with| .b b=>ih b|_=>false)
 (λ_ ih b=>match b with| .c b=>ih b|_=>false) (λ_ ih b=>match b with| .f b=>ih b|_=>false) a b
def GY (ih:NV->NV->Bool) (a b:NV):Bool:=
 match a,b with
 | .bool a,.bool b=>jf a b
 | .int k (.lit a),.int k' (.lit b)=>cond (EF k k') (ww a b) false
 | .str a,.str b=>JM a b
 | .nilp,.nilp| .nils,.nils| .nilm,.nilm| .nilf,.nilf| .nili,.nili=>true
 | .ptr a o,.ptr b p=>cond (bo a b) (Nat.beq o p) false
 | .slc a o n e k,.slc b p m f j=>cond (bo a b) (cond (Nat.beq o p) (cond (Nat.beq n m) (cond (Nat.beq e f) (Nat.beq k j) false) false) false) false
 | .map a,.map b=>bo a b
 | .yld a,.yld b=>bo a b
 | .fn f a,.fn g b=>cond (Nat.beq f g) (eV ih a b) false
 | .agg a,.agg b=>eV ih a b
 | .tup a,.tup b=>eV ih a b
 |_,_=>false
def aU:Nat->NV->NV->Bool:=λd=>Nat.rec (λ_ _=>false) (λ_ ih=>GY ih) d
def stays (pre:Nat) (h:NH) (l:List (Nat×(NH->NR)×NV)):Bool:=
 List.rec true (λr _ ih=>cond (Nat.testBit pre r.1) ih (match r.2.1 h with| .val v=>cond (aU 4 v r.2.2) ih false|_=>false)) l
def dw (pre:Nat) (f:NH->NR) (v:NV) (l:List (Nat×NH)):Bool:=
 List.rec true (λr _ ih=>cond (Nat.testBit pre r.1) ih (match f r.2 with| .val u=>cond (aU 4 u v) ih false|_=>false)) l
def ahead (pre:Nat) (l:List (Nat×NH)):Bool:=List.rec true (λr _ ih=>cond (Nat.testBit pre r.1) ih false) l
def bI (i:Nat) (l:List NOper):Bool:=List.rec true (λo _ ih=>cond (Nat.testBit o.pre i) ih false) l
section
abbrev cE:=Nat->List NV->NH->Option (NV×NH)
variable (cf:Nat->Option NFn) (S:cE) (self:Option D4->NC->Dyn->Res)
def unwind (callF:Nat->List NV->Option NV->NH->CR) (K:Option NV->NH->CR) (l:List Dfr):Option NV->NH->CR:=
 List.rec (λp h=>K p h)
  (λc _ ih p h=>match c with
   | .call f cap=>(match callF f cap p h with
    | .val _ p h=>ih p h
    |_=> .fail)
   | .mark id=>match h.get id with
    |some (.defd true)=>h.set id (.defd false) λh=>ih p h
    |_=> .fail) l
def finish (r:List NRes) (d:Dyn) (p:Option NV) (h:NH):CR:=
 match p with
 |none=>cD h d.t r .fail λl=> .val (gS l) d.ctx h
 |some v=> .pan v d.ctx h
def cP (depth:Nat):Nat->List NV->Option NV->NH->CR:=Nat.rec (λ_ _ _ _=> .fail)
 (λ_ ih f args ctx h=>match cf f with
  |some (.code nf)=>NZ args λt=>(match self none nf.body ⟨t, [],ctx,h⟩ with
   | .mk o d=>(match o with
    | .norm| .ret=>unwind ih (finish nf.results d) d.dfs none d.h
    | .pan v=>unwind ih (finish nf.results d) d.dfs (some v) d.h
    | .exit _=> .fail)
   | .fail=> .fail)
  |_=> .fail) depth
def bZ (f:Nat) (args:List NV) (h:NH):CR:=
 match S f args h with
 |some p=> .val p.1 none p.2
 |none=>match cf f with
  |some (.ext e)=>(match gI e args with
   |some v=> .val v none h
   |none=> .fail)
  |some (.code _)=>cP cf self 3 f args none h
  |none=> .fail
def dZ (l:D4) (o:Out) (h:NH):CR:=
 match h.get l with
 |some (.loop _ _ tm ps assign body)=>(match o with
  | .norm=>h.set l (.loop 0 .none tm ps assign body) λh=> .val (.bool true) none h
  | .ret=>h.set l (.loop 2 .ret tm ps assign body) λh=> .val (.bool false) none h
  | .exit id=>h.set l (.loop 2 (.exit id) tm ps assign body) λh=> .val (.bool false) none h
  | .pan _=> .fail)
 |_=> .fail
def da (l:D4) (bd:NC) (t:Tm) (h:NH):CR:=
 match h.get l with
 |some (.loop 0 p tm ps assign body)=>h.set l (.loop 1 p tm ps assign body) λh=>
  (match self (some l) bd ⟨t, [],none,h⟩ with
  | .mk o d=>(match o with
   | .pan v=>(match d.dfs with| []=> .pan v none d.h|_=> .fail)
   |o=>dZ l o d.h)
  | .fail=> .fail)
 |_=> .fail
def round (l:D4) (args:List NV) (h:NH):CR:=
 match h.get l with
 |some (.loop 0 _ tm ps assign body)=>ec .fail ps args tm λt=>
  match self (some l) assign ⟨t, [],none,h⟩ with
   | .mk .norm d=>(match d.dfs with| []=>da self l body d.t d.h|_=> .fail)
   |_=> .fail
 |_=> .fail
def pz (dst:Option D4) (K:Dyn->Res) (t:Tm) (dfs:List Dfr) (ctx:Option NV) (r:CR):Res:=
 CR.rec .fail (λv _ h=>jY dst v t λt=>K ⟨t,dfs,ctx,h⟩) (λv _ h=> .mk (.pan v) ⟨t,dfs,ctx,h⟩) r
def Rq (rnd:Option D4) (dst:Option D4) (K:Dyn->Res) (t:Tm) (dfs:List Dfr) (ctx:Option NV) (h:NH) (f:Nat) (cap:List NV):Res:=
 match rnd with
  |none=>jY dst aK t λt=>K ⟨t,.call f cap::dfs,ctx,h⟩
  |some _=> .fail
def JI (rnd:Option D4) (dst:Option D4) (K:Dyn->Res) (t:Tm) (dfs:List Dfr) (ctx:Option NV) (h:NH):Res:=
 match rnd with
  |none=>(match ctx with
   |some v=>jY dst v t λt=>K ⟨t,dfs,none,h⟩
   |none=>jY dst .nili t λt=>K ⟨t,dfs,none,h⟩)
  |some _=> .fail
def qL (rnd:Option D4) (dst:Option D4) (K:Dyn->Res) (t:Tm) (dfs:List Dfr) (ctx:Option NV) (h:NH) (r:NR):Res:=
 NR.rec .fail (λv=>jY dst v t λt=>K ⟨t,dfs,ctx,h⟩) (λv h=>jY dst v t λt=>K ⟨t,dfs,ctx,h⟩)
  (λf args=>pz dst K t dfs ctx (bZ cf S self f args h)) (λl args=>pz dst K t dfs ctx (round self l args h)) (λv=> .mk (.pan v) ⟨t,dfs,ctx,h⟩)
  (λf cap=>Rq rnd dst K t dfs ctx h f cap) (JI rnd dst K t dfs ctx h) r
def aF (t:Tm) (g:Option (D4×Bool)):Option Bool:=
 Option.rec (some true) (λkb=>Prod.rec (λk b=>Option.rec none (λv=>NV.onBool (some false) (λc=>some (jf b c)) v) (NT.get k t)) kb) g
def dl (rnd:Option D4) (l:List NOper):Dyn->Res:=List.rec (λd=> .mk .norm d)
 (λo _ ih d=>Dyn.rec (λt dfs ctx h=>NOper.rec (λdst op g _ _=>
  Option.rec .fail (λon=>Bool.rec (jY dst aK t λt=>ih ⟨t,dfs,ctx,h⟩)
   (qL cf S self rnd dst ih t dfs ctx h (ai op t h)) on) (aF t g)) o) d) l
def dz (ok:Bool) (r:Res):Res:=match r with| .mk (.pan v) d=>cond ok (.mk (.pan v) d) .fail|r=>r
def bY (rnd:Option D4) (l:List NOper):List (Nat×NH)->List (Nat×(NH->NR)×NV)->Dyn->Res:=List.rec (λ_ _ d=> .mk .norm d)
 (λo rest ih hs rs d=>Dyn.rec (λt dfs ctx h=>NOper.rec (λdst op g pre i=>
  Option.rec .fail (λon=>Bool.rec (jY dst aK t λt=>ih hs rs ⟨t,dfs,ctx,h⟩)
   (match aB op with
    | .pure=>(match ai op t h with
     | .val v=>jY dst v t λt=>ih hs rs ⟨t,dfs,ctx,h⟩
     |_=> .fail)
    | .alloc=>cond (ahead pre hs) (match ai op t h with
     | .mem v h=>jY dst v t λt=>ih hs rs ⟨t,dfs,ctx,h⟩
     |_=> .fail) .fail
    | .read=>(match ai op t h with
     | .val v=>cond (dw pre (ai op t) v hs) (jY dst v t λt'=>ih hs ((i,ai op t,v)::rs) ⟨t',dfs,ctx,h⟩) .fail
     |_=> .fail)
    | .eff=>cond (ahead pre hs) (dz (bI i rest) (qL cf S self rnd dst (λd=>cond (stays pre d.h rs) (ih ((i,h)::hs) rs d) .fail) t dfs ctx h (ai op t h))) .fail) on)
   (aF t g)) o) d) l
def NT.del {α:Type} (d:D4):NT α->NT α:=
 D4.rec (NT.rec .leaf (λ_ a b c f _ _ _ _=> .node none a b c f)) (λ_ ih=>NT.rec .leaf (λw a b c f _ _ _ _=> .node w (ih a) b c f)) (λ_ ih=>NT.rec .leaf (λw a b c f _ _ _ _=> .node w a (ih b) c f))
  (λ_ ih=>NT.rec .leaf (λw a b c f _ _ _ _=> .node w a b (ih c) f)) (λ_ ih=>NT.rec .leaf (λw a b c f _ _ _ _=> .node w a b c (ih f))) d
def mz (l:List NOper) (t:Tm):Tm:=List.rec t (λo _ ih=>match o.dst with|some d=>NT.del d ih|none=>ih) l
def fj (l:D4) (t:Tm) (dfs:List Dfr) (ctx:Option NV) (h:NH):Res:=
 match h.get l with
 |some (.loop st p tm ps a b)=>cond (Nat.beq st 1) .fail
  (h.set l (.loop 3 p tm ps a b) λh=>match p with
   | .none=> .mk .norm ⟨t,dfs,ctx,h⟩
   | .ret=> .mk .ret ⟨t,dfs,ctx,h⟩
   | .exit id=> .mk (.exit id) ⟨t,dfs,ctx,h⟩)
 |_=> .fail
def Y0 (_:Option D4) (d:Dyn):Res:= .mk .norm d
def acJ (ops:List NOper) (rnd:Option D4) (d:Dyn):Res:=dl cf S self rnd ops d
def G1 (ops:List NOper) (rnd:Option D4) (d:Dyn):Res:=match bY cf S self rnd ops [] [] d with
 | .mk (.pan v) d=> .mk (.pan v) ⟨mz ops d.t,d.dfs,d.ctx,d.h⟩
 |r=>r
def acy (a b:NC) (rnd:Option D4) (d:Dyn):Res:=Res.rec .fail (λo d=>Out.rec (self rnd b d) (.mk .ret d) (λi=> .mk (.exit i) d) (λv=> .mk (.pan v) d) o) (self rnd a d)
def Yx (c:NOpd) (a b:NC) (rnd:Option D4) (d:Dyn):Res:=Option.rec .fail (λv=>NV.onBool .fail (λc=>Bool.rec (self rnd b d) (self rnd a d) c) v) (ρ d.t c)
def XK (id:Nat) (a:NC) (rnd:Option D4) (d:Dyn):Res:=Res.rec .fail (λo d=>Out.rec (.mk .norm d) (.mk .ret d) (λi=>cond (Nat.beq i id) (.mk .norm d) (.mk (.exit i) d)) (λv=> .mk (.pan v) d) o) (self rnd a d)
def Y2 (a:NC) (rnd:Option D4) (d:Dyn):Res:=Res.rec .fail (λo d=>Out.rec (self rnd (.loop a) d) (.mk .ret d) (λi=> .mk (.exit i) d) (λv=> .mk (.pan v) d) o) (self rnd a d)
def cL (f:Nat) (cap:List NV) (ps:List D4) (a b:NC) (t:Tm) (dfs:List Dfr) (ctx:Option NV) (h:NH):Res:=
 h.new (.loop 0 .none t ps a b) λl h=>match bZ cf S self f (.yld l::cap) h with
  | .val _ _ h=>fj l t dfs ctx h
  | .pan v _ h=> .mk (.pan v) ⟨t,dfs,ctx,h⟩
  | .fail=> .fail
def Xj (f:NOpd) (ps:List D4) (a b:NC) (rnd:Option D4) (d:Dyn):Res:=match d with
 |⟨t,dfs,ctx,h⟩=>match ρ t f with
  |some (.fn f cap)=>(match rnd with
   |none=>h.new (.defd true) λm h=>cL cf S self f cap ps a b t (.mark m::dfs) ctx h
   |some l=>(match h.get l with
    |some (.loop ..)=>cL cf S self f cap ps a b t dfs ctx h
    |_=> .fail))
  |_=> .fail
def YH (id:Nat) (_:Option D4) (d:Dyn):Res:= .mk (.exit id) d
def acM (_:Option D4) (d:Dyn):Res:= .mk .ret d
def rB (rnd:Option D4) (c:NC) (d:Dyn):Res:=
 NC.rec (motive:=λ_=>Option D4->Dyn->Res) Y0 (acJ cf S self) (G1 cf S self) (λa b _ _=>acy self a b) (λc a b _ _=>Yx self c a b) (λid a _=>XK self id a) (λa _=>Y2 self a)
  (λf ps a b _ _=>Xj cf S self f ps a b) YH acM c rnd d
end
def ev (cf:Nat->Option NFn) (S:cE) (n:Nat):Option D4->NC->Dyn->Res:=
 Nat.rec (λ_ _ _=> .fail) (λ_ ih=>rB cf S ih) n
def noS (_:Nat) (_:List NV) (_:NH):Option (NV×NH):=none
end
open Go
noncomputable section
def D4.toNat:D4->Nat
 | .e=>0
 | .a d=>4*d.toNat+1
 | .b d=>4*d.toNat+2
 | .c d=>4*d.toNat+3
 | .f d=>4*d.toNat+4
theorem D4.toNat_inj:∀{x y:D4},x.toNat=y.toNat->x=y:=by
 intro x
 induction x with
 |e=>intro y h;cases y<;>simp[D4.toNat] at h ⊢
 |a d ih=>intro y h;cases y<;>simp[D4.toNat] at h ⊢<;>first|exact ih (by omega)|omega
 |b d ih=>intro y h;cases y<;>simp[D4.toNat] at h ⊢<;>first|exact ih (by omega)|omega
 |c d ih=>intro y h;cases y<;>simp[D4.toNat] at h ⊢<;>first|exact ih (by omega)|omega
 |f d ih=>intro y h;cases y<;>simp[D4.toNat] at h ⊢<;>first|exact ih (by omega)|omega
def D4.nxt:D4->D4
 | .e=> .a .e
 | .a d=> .b d
 | .b d=> .c d
 | .c d=> .f d
 | .f d=> .a d.nxt
theorem D4.toNat_nxt (d:D4):d.nxt.toNat=d.toNat+1:=by
 induction d with
 |f d ih=>simp[D4.nxt,D4.toNat,ih];omega
 |_=>simp[D4.nxt,D4.toNat]
theorem D4.succ_eq {R:Type} (d:D4) (K:D4->R):d.succ K=K d.nxt:=by
 induction d generalizing K with
 |f d ih=>exact ih _
 |_=>rfl
def D4.of:Nat->D4
 |0=> .e
 |n+1=>(D4.of n).nxt
theorem D4.toNat_of (n:Nat):(D4.of n).toNat=n:=by
 induction n with
 |zero=>rfl
 |succ n ih=>simp[D4.of,D4.toNat_nxt,ih]
theorem D4.of_toNat (d:D4):D4.of d.toNat=d:=D4.toNat_inj (by rw[D4.toNat_of])
theorem D4.of_inj {m n:Nat} (h:D4.of m=D4.of n):m=n:=by rw[←D4.toNat_of m,h,D4.toNat_of]
theorem D4.dig_eq {R:Type} {r:Nat} (hr:r<4) (d:D4) (K:D4->R):D4.dig r d K=K (D4.of (4*d.toNat+r+1)):=by
 have h:∀x:D4,x.toNat=4*d.toNat+r+1->K x=K (D4.of (4*d.toNat+r+1)):=λx hx=>by rw[←hx,D4.of_toNat]
 match r,hr with
 |0,_=>exact h (.a d) rfl
 |1,_=>exact h (.b d) rfl
 |2,_=>exact h (.c d) rfl
 |3,_=>exact h (.f d) rfl
theorem D4.ofF_eq {R:Type}:∀(fuel n:Nat) (K:D4->R),n<=fuel->D4.ofF fuel n K=K (D4.of n):=by
 intro fuel
 induction fuel with
 |zero=>intro n K h;cases n with|zero=>rfl|succ n=>omega
 |succ fuel ih=>
  intro n K h
  cases n with
  |zero=>rfl
  |succ n=>
   have e:D4.ofF (fuel+1) (n+1) K=D4.ofF fuel (n / 4) λd=>D4.dig (n % 4) d K:=rfl
   rw[e,ih _ _ (by omega),D4.dig_eq (by omega),D4.toNat_of,show 4*(n / 4)+n % 4+1=n+1 by omega]
theorem D4.ofNat_eq {R:Type} (n:Nat) (K:D4->R):D4.ofNat n K=K (D4.of n):=D4.ofF_eq n n K (aa2 n)
def NT.put {α:Type} (d:D4) (v:α) (t:NT α):NT α:=NT.set d v t λt=>t
theorem NT.set_eq {α R:Type} (d:D4) (v:α) (t:NT α) (K:NT α->R):NT.set d v t K=K (NT.put d v t):=by
 induction d generalizing t R with
 |e=>cases t<;>rfl
 |a d ih=>cases t<;>(show NT.set d v _ _=K (NT.set d v _ _);rw[ih,ih])
 |b d ih=>cases t<;>(show NT.set d v _ _=K (NT.set d v _ _);rw[ih,ih])
 |c d ih=>cases t<;>(show NT.set d v _ _=K (NT.set d v _ _);rw[ih,ih])
 |f d ih=>cases t<;>(show NT.set d v _ _=K (NT.set d v _ _);rw[ih,ih])
theorem NT.put_a {α:Type} (d:D4) (v:α) (t:NT α):NT.put (.a d) v t=match t with| .leaf=> .node none (NT.put d v .leaf) .leaf .leaf .leaf| .node w a b c f=> .node w (NT.put d v a) b c f:=by cases t<;>exact NT.set_eq d v _ _
theorem NT.put_b {α:Type} (d:D4) (v:α) (t:NT α):NT.put (.b d) v t=match t with| .leaf=> .node none .leaf (NT.put d v .leaf) .leaf .leaf| .node w a b c f=> .node w a (NT.put d v b) c f:=by cases t<;>exact NT.set_eq d v _ _
theorem NT.put_c {α:Type} (d:D4) (v:α) (t:NT α):NT.put (.c d) v t=match t with| .leaf=> .node none .leaf .leaf (NT.put d v .leaf) .leaf| .node w a b c f=> .node w a b (NT.put d v c) f:=by cases t<;>exact NT.set_eq d v _ _
theorem NT.put_f {α:Type} (d:D4) (v:α) (t:NT α):NT.put (.f d) v t=match t with| .leaf=> .node none .leaf .leaf .leaf (NT.put d v .leaf)| .node w a b c f=> .node w a b c (NT.put d v f):=by cases t<;>exact NT.set_eq d v _ _
theorem NT.get_leaf {α:Type} (d:D4):NT.get d (.leaf:NT α)=none:=by cases d<;>rfl
theorem NT.get_put_same {α:Type} (d:D4) (v:α) (t:NT α):NT.get d (NT.put d v t)=some v:=by
 induction d generalizing t with
 |e=>cases t<;>rfl
 |a d ih=>rw[NT.put_a];cases t<;>exact ih _
 |b d ih=>rw[NT.put_b];cases t<;>exact ih _
 |c d ih=>rw[NT.put_c];cases t<;>exact ih _
 |f d ih=>rw[NT.put_f];cases t<;>exact ih _
theorem NT.get_put_ne {α:Type} {d i:D4} (h:i≠d) (v:α) (t:NT α):NT.get i (NT.put d v t)=NT.get i t:=by
 induction d generalizing t i with
 |e=>cases i<;>first|exact adD rfl h|(cases t<;>first|rfl|exact NT.get_leaf _)
 |a d ih=>rw[NT.put_a];cases i<;>cases t<;>first|rfl|exact ih (λx=>h (by rw[x])) _|exact NT.get_leaf _|exact (ih (λx=>h (by rw[x])) _).trans (NT.get_leaf _)
 |b d ih=>rw[NT.put_b];cases i<;>cases t<;>first|rfl|exact ih (λx=>h (by rw[x])) _|exact NT.get_leaf _|exact (ih (λx=>h (by rw[x])) _).trans (NT.get_leaf _)
 |c d ih=>rw[NT.put_c];cases i<;>cases t<;>first|rfl|exact ih (λx=>h (by rw[x])) _|exact NT.get_leaf _|exact (ih (λx=>h (by rw[x])) _).trans (NT.get_leaf _)
 |f d ih=>rw[NT.put_f];cases i<;>cases t<;>first|rfl|exact ih (λx=>h (by rw[x])) _|exact NT.get_leaf _|exact (ih (λx=>h (by rw[x])) _).trans (NT.get_leaf _)
theorem aj {R:Type} (n:Nat) (K:Nat->R):aG n K=K n:=by cases n<;>rfl
theorem ko {R:Type} (n:Int) (K:Int->R):Nx n K=K n:=by
 cases n with
 |ofNat m=>exact aj m λm=>K (.ofNat m)
 |negSucc m=>exact aj m λm=>K (.negSucc m)
def NH.put (h:NH) (id:D4) (o:NO):NH:=⟨NT.put id o h.m,h.next⟩
def NH.add (h:NH) (o:NO):NH:=⟨NT.put h.next o h.m,h.next.nxt⟩
theorem NH.set_eq {R:Type} (h:NH) (id:D4) (o:NO) (K:NH->R):h.set id o K=K (h.put id o):=by cases h;exact NT.set_eq _ _ _ _
theorem NH.new_eq {R:Type} (h:NH) (o:NO) (K:D4->NH->R):h.new o K=K h.next (h.add o):=by
 cases h;exact (NT.set_eq _ _ _ _).trans (D4.succ_eq _ _)
theorem NH.get_put_same (h:NH) (id:D4) (o:NO):(h.put id o).get id=some o:=NT.get_put_same _ _ _
theorem NH.get_put_ne (h:NH) {id i:D4} (o:NO) (hn:i≠id):(h.put id o).get i=h.get i:=NT.get_put_ne hn _ _
theorem NH.get_add_same (h:NH) (o:NO):(h.add o).get h.next=some o:=NT.get_put_same _ _ _
theorem NH.get_add_ne (h:NH) {i:D4} (o:NO) (hn:i≠h.next):(h.add o).get i=h.get i:=NT.get_put_ne hn _ _
theorem fH {α:Type} (l:List α) (n:Nat):kD l n=l[n]? :=by
 induction l generalizing n with
 |nil=>rfl
 |cons a l ih=>cases n with
  |zero=>rfl
  |succ n=>exact (ih n).trans (by simp)
theorem jH {α:Type} (n:Nat) (l:List α):jt n l=if n<=l.length then some (l.take n) else none:=by
 induction n generalizing l with
 |zero=>show some []=_;simp
 |succ n ih=>cases l with
  |nil=>show none=_;simp
  |cons a l=>
   have e:jt (n+1) (a::l)=Option.rec none (λt'=>some (a::t')) (jt n l):=rfl
   rw[e,ih];by_cases h:n<=l.length<;>simp[h]
theorem fR {α:Type} (n:Nat) (l:List α):dN n l=if n<=l.length then some (l.drop n) else none:=by
 induction n generalizing l with
 |zero=>show some l=_;simp
 |succ n ih=>cases l with
  |nil=>show none=_;simp
  |cons a l=>
   have e:dN (n+1) (a::l)=dN n l:=rfl
   rw[e,ih];by_cases h:n<=l.length<;>simp[h]
theorem iS {α:Type} (l:List α) (off n:Nat):fC l off n=if off+n<=l.length then some ((l.drop off).take n) else none:=by
 unfold fC
 rw[fR]
 by_cases h:off<=l.length
 ·simp only[h,if_true]
  rw[jH]
  by_cases h2:off+n<=l.length
  ·rw[adF (by simp;omega),adF h2]
  ·rw[adE (by simp;omega),adE h2]
 ·simp only[h,if_false]
  rw[adE (by omega)]
theorem Jw {α:Type} (new l:List α):rO new l=if new.length<=l.length then some (new++l.drop new.length) else none:=by
 induction new generalizing l with
 |nil=>show some l=_;simp
 |cons b new ih=>cases l with
  |nil=>show none=_;simp
  |cons a l=>
   have e:rO (b::new) (a::l)=Option.rec none (λt'=>some (b::t')) (rO new l):=rfl
   rw[e,ih];by_cases h:new.length<=l.length<;>simp[h]
theorem ez {α:Type} (new:List α) (off:Nat) (l:List α):dx new off l=if off+new.length<=l.length then some (l.take off++new++l.drop (off+new.length)) else none:=by
 induction off generalizing l with
 |zero=>show rO new l=_;rw[Jw];simp
 |succ n ih=>cases l with
  |nil=>show none=_;rw[adE (by simp)]
  |cons a l=>
   have e:dx new (n+1) (a::l)=Option.rec none (λt'=>some (a::t')) (dx new n l):=rfl
   rw[e,ih]
   by_cases h:n+new.length<=l.length
   ·simp[h,show n+1+new.length=n+new.length+1 by omega]
   ·rw[adE h,adE (by simp;omega)]
theorem Gv {α:Type} {k:Nat} {K:List α->Option (List α)} {l r:List α} (h:gT k K l=some r):k<=l.length/\∃r',K (l.drop k)=some r'/\r=l.take k++r':=by
 induction k generalizing l r with
 |zero=>exact⟨Nat.zero_le _,r,h,by simp⟩
 |succ k ih=>cases l with
  |nil=>cases h
  |cons a l=>
   have e:gT (k+1) K (a::l)=Option.rec none (λt'=>some (a::t')) (gT k K l):=rfl
   rw[e] at h
   cases hl:gT k K l with
   |none=>rw[hl] at h;cases h
   |some t=>
    rw[hl] at h
    obtain⟨h1,r',h2,h3⟩:=ih hl
    simp at h
    exact⟨by simp;omega,r',by simpa using h2,by rw[←h,h3];simp⟩
theorem eP {α R:Type} (a b:List α) (K:List α->R):iM a b K=K (a++b):=by
 induction a generalizing K with
 |nil=>rfl
 |cons x a ih=>exact ih _
theorem MW {α R:Type} (l:List α) (n:Nat) (K:Nat->R):Hx l n K=K (n+l.length):=by
 induction l generalizing n with
 |nil=>rfl
 |cons x l ih=>
  have e:Hx (x::l) n K=aG (Nat.succ n) λn=>Hx l n K:=rfl
  rw[e,aj,ih]
  simp;congr 1;omega
theorem bS {α R:Type} (l:List α) (K:Nat->R):dJ l K=K l.length:=by
 unfold dJ;rw[MW,ad1]
def rep {α:Type}:Nat->List α->List α
 |0,_=> []
 |n+1,z=>z++rep n z
theorem fG {α R:Type} (n:Nat) (z:List α) (K:List α->R):vH n z K=K (rep n z):=by
 induction n generalizing K with
 |zero=>rfl
 |succ n ih=>exact (ih _).trans (eP _ _ _)
theorem F3 {α:Type} (n:Nat) (z:List α):(rep n z).length=n*z.length:=by
 induction n with
 |zero=>simp[rep]
 |succ n ih=>simp[rep,ih,ad4];omega
theorem im (b:Bool):qH b= !b:=by cases b<;>rfl
theorem bO (m n:Nat):Nat.ble m n=decide (m<=n):=by rw[ad5];simp
theorem qw (a b:Int):Uc a b=decide (a<=b):=by
 cases a with
 |ofNat m=>cases b with
  |ofNat n=>show Nat.ble m n=_;rw[bO,ad5];simp
  |negSucc n=>show false=_;symm;rw[decide_eq_false_iff_not,Int.negSucc_eq];simp;omega
 |negSucc m=>cases b with
  |ofNat n=>show true=_;symm;rw[decide_eq_true_iff,Int.negSucc_eq];simp;omega
  |negSucc n=>show Nat.ble n m=_;rw[bO,ad5];simp only[decide_eq_true_eq,Int.negSucc_eq];omega
theorem iw (a b:Int):ww a b=(a==b):=by
 cases a<;>cases b<;>simp[ww]<;>rw[ad5]<;>simp<;>omega
theorem jj (a b:Int):El a b=decide (a<b):=by
 rw[El,im,qw,ad5];simp
theorem nH (a b:Bool):jf a b=(a==b):=by cases a<;>cases b<;>rfl
theorem Hj (a b:Int):Jr a b=a+b:=by cases a<;>cases b<;>rfl
theorem lW (a b:Int):Fd a b=a - b:=by
 cases a with
 |ofNat m=>cases b with
  |ofNat n=>
   show cond (Nat.ble n m) _ _=_
   cases h:Nat.ble n m with
   |true=>have:=ac4 h;simp;omega
   |false=>
    have:¬n<=m:=λhh=>by rw[ab0 hh] at h;cases h
    simp[Int.negSucc_eq];omega
  |negSucc n=>rfl
 |negSucc m=>rfl
theorem kq (a b:Int):xe a b=a*b:=by cases a<;>cases b<;>rfl
theorem lG {m:Nat} (h:m<9223372036854775808):IntKind.wrap .i64 (m:Int)=m:=by
 rw[IntKind.wrap_i64];omega
theorem uX {m:Nat} (h:m<9223372036854775808):IntKind.wrap .i64 (Int.negSucc m)=Int.negSucc m:=by
 rw[IntKind.wrap_i64,Int.negSucc_eq];omega
theorem wW (m:Nat):IntKind.wrap .u64 (Int.negSucc m)=((18446744073709551615 - m % 18446744073709551616:Nat):Int):=by
 rw[IntKind.wrap_u64,Int.negSucc_eq];omega
theorem cN (k:IntKind) (n:Int):bM k n=k.wrap n:=by
 cases k with
 |i8=>cases n<;>rfl
 |i16=>cases n<;>rfl
 |i32=>cases n<;>rfl
 |u16=>cases n<;>rfl
 |i64=>cases n with
  |ofNat m=>
   simp only[bM,bO]
   by_cases h:Nat.succ m<=9223372036854775808
   ·rw[adH h,cond_true];have e:=lG (Nat.lt_of_succ_le h);exact e.symm
   ·rw[adG h,cond_false]
  |negSucc m=>
   simp only[bM,bO]
   by_cases h:Nat.succ m<=9223372036854775808
   ·rw[adH h,cond_true];have e:=uX (Nat.lt_of_succ_le h);exact e.symm
   ·rw[adG h,cond_false]
 |u8=>cases n with
  |ofNat m=>show ((m % 256:Nat):Int)=_;simp[IntKind.wrap,IntKind.bits,IntKind.signed]
  |negSucc m=>rfl
 |u32=>cases n with
  |ofNat m=>show ((m % 4294967296:Nat):Int)=_;simp[IntKind.wrap,IntKind.bits,IntKind.signed]
  |negSucc m=>rfl
 |u64=>cases n with
  |ofNat m=>rw[IntKind.wrap_u64];rfl
  |negSucc m=>exact (wW _).symm
theorem bc (k:IntKind) (n:Int):cS k n=some (.int k (.lit n)):=ko _ _
theorem bn (b:Bool):cH b=some (.bool b):=by cases b<;>rfl
end
section
variable {cf:Nat->Option NFn} {S:cE} {self:Option D4->NC->Dyn->Res} {n:Nat} {r:Option D4} {a b:NC} {d:Dyn}
theorem Gs:rB cf S self r (.seq a b) d=(match self r a d with| .mk o d=>(match o with| .norm=>self r b d|o=> .mk o d)| .fail=> .fail):=by
 show (Res.rec .fail (λo d=>Out.rec (self r b d) (.mk .ret d) (λi=> .mk (.exit i) d) (λv=> .mk (.pan v) d) o) (self r a d):Res)=_
 cases self r a d with
 |fail=>rfl
 |mk o d=>cases o<;>rfl
theorem wz {c:NOpd}:rB cf S self r (.cond c a b) d=(match ρ d.t c with|some (.bool c)=>Bool.rec (self r b d) (self r a d) c|_=> .fail):=by
 show (Option.rec .fail (λv=>NV.onBool .fail (λc=>Bool.rec (self r b d) (self r a d) c) v) (ρ d.t c):Res)=_
 cases ρ d.t c with
 |none=>rfl
 |some v=>cases v<;>rfl
theorem qY {id:Nat}:rB cf S self r (.block id a) d=(match self r a d with| .mk o d=>(match o with| .exit i=>cond (Nat.beq i id) (.mk .norm d) (.mk (.exit i) d)|o=> .mk o d)| .fail=> .fail):=by
 show (Res.rec .fail (λo d=>Out.rec (.mk .norm d) (.mk .ret d) (λi=>cond (Nat.beq i id) (.mk .norm d) (.mk (.exit i) d)) (λv=> .mk (.pan v) d) o) (self r a d):Res)=_
 cases self r a d with
 |fail=>rfl
 |mk o d=>cases o<;>rfl
theorem me:rB cf S self r (.loop a) d=(match self r a d with| .mk o d=>(match o with| .norm=>self r (.loop a) d|o=> .mk o d)| .fail=> .fail):=by
 show (Res.rec .fail (λo d=>Out.rec (self r (.loop a) d) (.mk .ret d) (λi=> .mk (.exit i) d) (λv=> .mk (.pan v) d) o) (self r a d):Res)=_
 cases self r a d with
 |fail=>rfl
 |mk o d=>cases o<;>rfl
theorem Gy:ev cf S (n+1) r (.seq a b) d=(match ev cf S n r a d with| .mk o d=>(match o with| .norm=>ev cf S n r b d|o=> .mk o d)| .fail=> .fail):=Gs (cf:=cf) (S:=S)
theorem HG {c:NOpd}:ev cf S (n+1) r (.cond c a b) d=(match ρ d.t c with|some (.bool c)=>Bool.rec (ev cf S n r b d) (ev cf S n r a d) c|_=> .fail):=wz (cf:=cf) (S:=S)
theorem Cl {id:Nat}:ev cf S (n+1) r (.block id a) d=(match ev cf S n r a d with| .mk o d=>(match o with| .exit i=>cond (Nat.beq i id) (.mk .norm d) (.mk (.exit i) d)|o=> .mk o d)| .fail=> .fail):=qY (cf:=cf) (S:=S)
theorem ue:ev cf S (n+1) r (.loop a) d=(match ev cf S n r a d with| .mk o d=>(match o with| .norm=>ev cf S n r (.loop a) d|o=> .mk o d)| .fail=> .fail):=me (cf:=cf) (S:=S)
end
open Go
theorem vJ {a b:IntKind} (h:EF a b=true):a=b:=by cases a<;>cases b<;>first|rfl|(cases h)
theorem hH {k:IntKind} {a:Nat} (h:a<bE k):a<2 ^ k.bits:=by
 cases k<;>simp[bE,IntKind.bits] at h ⊢<;>omega
theorem pp {k:IntKind} {a:Nat} (h:a<bE k):k.wrap (a:Int)=a:=by
 cases k with
 |i64=>exact lG h
 |u64=>rw[IntKind.wrap_u64];simp only[bE] at h;omega
 |u32=>simp only[bE] at h;simp[IntKind.wrap,IntKind.bits,IntKind.signed];omega
 |u8=>simp only[bE] at h;simp[IntKind.wrap,IntKind.bits,IntKind.signed];omega
 |_=>exact adD h (Nat.not_lt_zero _)
theorem dU {n a:Nat} (h:a<2 ^ n):(BitVec.ofInt n (a:Int)).toNat=a:=by
 rw[BitVec.toNat_ofInt,af1 (by omega) (Int.ofNat_lt.2 h)];simp
theorem Ey {k:IntKind} {a:Nat} (h:a<bE k):∃n,bE k=2 ^ n:=by
 cases k with
 |i64=>exact⟨63,rfl⟩
 |u64=>exact⟨64,rfl⟩
 |u32=>exact⟨32,rfl⟩
 |u8=>exact⟨8,rfl⟩
 |_=>exact adD h (Nat.not_lt_zero _)
theorem F0 {n a b:Nat} (ha:a<2 ^ n) (hb:b<2 ^ n):(BitVec.ofInt n (a:Int)&&& ~~~BitVec.ofInt n (b:Int)).toNat=a&&& (2 ^ n - 1 - b):=by
 rw[BitVec.toNat_and,BitVec.toNat_not,dU ha,dU hb]
def V7 (P:Program) (op:BinOp) (k:IntKind) (a b:Int) (v:NV):Prop:=
 (∃r,v= .int k (.lit r)/\∀t k' w,(fB op=true∨k=k')->(binOp op t (.int k a) (.int k' b)).run P w= .ok (.int k r) w)∨
 (∃c,v= .bool c/\∀t k' w,(fB op=true∨k=k')->(binOp op t (.int k a) (.int k' b)).run P w= .ok (.bool c) w)
theorem j9 {P:Program} {op:BinOp} {k:IntKind} {a b:Int} {v:NV} (h:AQ op k a b=some v):V7 P op k a b v:=by
 cases op<;>simp only[AQ,bc] at h<;>first|(cases h;done)|skip
 all_goals
  simp only[Option.some.injEq] at h
  subst h
  refine .inl ⟨_,rfl,λt k' w hk=> ?_⟩
  rcases hk with hk|rfl
  ·simp[fB] at hk
  ·simp[binOp,Op.intBits]
theorem gZ {P:Program} {op:BinOp} {k:IntKind} {a b:Int} {v:NV} (hop:op= .and∨op= .or∨op= .xor∨op= .andNot) (h:gC op k a b=some v):V7 P op k a b v:=by
 unfold gC at h
 split at h
 ·rename_i m n
  rw[bO,bO] at h
  by_cases hm:Nat.succ m<=bE k
  ·by_cases hn:Nat.succ n<=bE k
   ·rw[adH hm,adH hn] at h
    simp only[cond_true] at h
    have hm':m<bE k:=hm
    have hn':n<bE k:=hn
    obtain⟨q,hq⟩:=Ey hm'
    refine .inl ?_
    rcases hop with rfl|rfl|rfl|rfl
    ·simp only[rx,bc,Option.some.injEq] at h
     refine⟨_,h.symm,λt k' w hk=> ?_⟩
     rcases hk with hk|rfl
     ·simp[fB] at hk
     ·have h1:(m&&& n)<bE k:=by rw[hq] at hm' ⊢;exact Nat.and_lt_two_pow _ (by rw[hq] at hn';exact hn')
      have h2:=pp h1
      simp only[binOp,Op.intBits,ne_eq,not_true_eq_false,if_false,af4,BitVec.toNat_and,dU (hH hm'),dU (hH hn'),h2]
      rfl
    ·simp only[rx,bc,Option.some.injEq] at h
     refine⟨_,h.symm,λt k' w hk=> ?_⟩
     rcases hk with hk|rfl
     ·simp[fB] at hk
     ·have h1:(m|||n)<bE k:=by rw[hq] at hm' hn' ⊢;exact Nat.or_lt_two_pow hm' hn'
      have h2:=pp h1
      simp only[binOp,Op.intBits,ne_eq,not_true_eq_false,if_false,af4,BitVec.toNat_or,dU (hH hm'),dU (hH hn'),h2]
      rfl
    ·simp only[rx,bc,Option.some.injEq] at h
     refine⟨_,h.symm,λt k' w hk=> ?_⟩
     rcases hk with hk|rfl
     ·simp[fB] at hk
     ·have h1:(m ^^^ n)<bE k:=by rw[hq] at hm' hn' ⊢;exact Nat.xor_lt_two_pow hm' hn'
      have h2:=pp h1
      simp only[binOp,Op.intBits,ne_eq,not_true_eq_false,if_false,af4,BitVec.toNat_xor,dU (hH hm'),dU (hH hn'),h2]
      rfl
    ·simp only[rx,bc,Option.some.injEq] at h
     refine⟨_,h.symm,λt k' w hk=> ?_⟩
     rcases hk with hk|rfl
     ·simp[fB] at hk
     ·have h1:m&&& (2 ^ k.bits - 1 - n)<bE k:=Nat.lt_of_le_of_lt Nat.and_le_left hm'
      have h2:=pp h1
      simp only[binOp,Op.intBits,ne_eq,not_true_eq_false,if_false,af4,F0 (hH hm') (hH hn'),h2]
      rfl
   ·rw[adH hm,adG hn] at h
    exact j9 h
  ·rw[adG hm] at h
   exact j9 h
 ·exact j9 h
theorem Lm (k:IntKind) (n:Nat):ss k n=min n k.bits:=by
 unfold ss
 rw[bO]
 by_cases h:n<=k.bits
 ·simp[h,ac5 h]
 ·simp[h,Nat.min_eq_right (Nat.le_of_not_le h)]
theorem Dw (n:Nat):((Nat.pow 2 n:Nat):Int)=2 ^ n:=by
 show ((2 ^ n:Nat):Int)=_
 simp
theorem oJ {P:Program} {op:BinOp} {k:IntKind} {a b:Int} {v:NV} (h:iK op k a b=some v):V7 P op k a b v:=by
 cases op with
 |and=>exact gZ (.inl rfl) h
 |or=>exact gZ (.inr (.inl rfl)) h
 |xor=>exact gZ (.inr (.inr (.inl rfl))) h
 |andNot=>exact gZ (.inr (.inr (.inr rfl))) h
 |add=>
  have h':cS k (bM k (Jr a b))=some v:=h
  rw[bc,cN,Hj] at h'
  refine .inl ⟨_,(Option.some.inj h').symm,λt k' w hk=> ?_⟩
  rcases hk with hk|rfl
  ·simp[fB] at hk
  ·simp[binOp,Op.intArith]
 |sub=>
  have h':cS k (bM k (Fd a b))=some v:=h
  rw[bc,cN,lW] at h'
  refine .inl ⟨_,(Option.some.inj h').symm,λt k' w hk=> ?_⟩
  rcases hk with hk|rfl
  ·simp[fB] at hk
  ·simp[binOp,Op.intArith]
 |mul=>
  have h':cS k (bM k (xe a b))=some v:=h
  rw[bc,cN,kq] at h'
  refine .inl ⟨_,(Option.some.inj h').symm,λt k' w hk=> ?_⟩
  rcases hk with hk|rfl
  ·simp[fB] at hk
  ·simp[binOp,Op.intArith]
 |quo=>
  have h':Ja true k a b=some v:=h
  unfold Ja at h'
  cases hz:isZ b with
  |true=>rw[hz] at h';cases h'
  |false=>
   have hb:b≠0:=by rintro rfl;cases hz
   rw[hz] at h'
   have key:some (NV.int k (.lit (k.wrap (a.tdiv b))))=some v:=by
    rw[←h']
    simp only[cond_false]
    split
    ·simp only[cond_true,bc,cN];rfl
    ·simp only[cond_true,bc,cN]
   refine .inl ⟨_,(Option.some.inj key).symm,λt k' w hk=> ?_⟩
   rcases hk with hk|rfl
   ·simp[fB] at hk
   ·simp[binOp,Op.intDiv,hb]
 |rem=>
  have h':Ja false k a b=some v:=h
  unfold Ja at h'
  cases hz:isZ b with
  |true=>rw[hz] at h';cases h'
  |false=>
   have hb:b≠0:=by rintro rfl;cases hz
   rw[hz] at h'
   have key:some (NV.int k (.lit (a.tmod b)))=some v:=by
    rw[←h']
    simp only[cond_false]
    split
    ·simp only[bc];rfl
    ·simp only[bc]
   refine .inl ⟨_,(Option.some.inj key).symm,λt k' w hk=> ?_⟩
   rcases hk with hk|rfl
   ·simp[fB] at hk
   ·simp[binOp,Op.intDiv,hb]
 |shl=>
  have h':Py k a b=some v:=h
  unfold Py at h'
  split at h'
  ·rename_i n
   rw[bc,cN,kq,af4,Dw,Lm] at h'
   refine .inl ⟨_,(Option.some.inj h').symm,λt k' w _=> ?_⟩
   have hn:¬((n:Nat):Int)<0:=by omega
   simp[binOp,Op.shift,hn]
  ·cases h'
 |shr=>
  have h':Jq k a b=some v:=h
  have key:∃n:Nat,b=n/\v=NV.int k (.lit (a.fdiv (2 ^ (ss k n)))):=by
   unfold Jq at h'
   split at h'
   ·rename_i m n
    rw[bc] at h'
    refine⟨n,rfl,(Option.some.inj h').symm.trans ?_⟩
    congr 2
    rw[←Dw]
    exact Int.ofNat_fdiv m (Nat.pow 2 (ss k n))
   ·rename_i n _
    rw[bc] at h'
    exact⟨n,rfl,(Option.some.inj h').symm⟩
   ·cases h'
  obtain⟨n,rfl,rfl⟩:=key
  refine .inl ⟨_,rfl,λt k' w _=> ?_⟩
  have hn:¬((n:Nat):Int)<0:=by omega
  simp[binOp,Op.shift,Lm,hn]
 |eql=>
  have h':cH (ww a b)=some v:=h
  rw[bn,iw] at h'
  refine .inr ⟨_,(Option.some.inj h').symm,λt k' w hk=> ?_⟩
  rcases hk with hk|rfl
  ·simp[fB] at hk
  ·simp[binOp,Op.intCmp]
 |neq=>
  have h':cH (qH (ww a b))=some v:=h
  rw[bn,iw,im] at h'
  refine .inr ⟨_,(Option.some.inj h').symm,λt k' w hk=> ?_⟩
  rcases hk with hk|rfl
  ·simp[fB] at hk
  ·simp[binOp,Op.intCmp,bne]
 |lss=>
  have h':cH (El a b)=some v:=h
  rw[bn,jj] at h'
  refine .inr ⟨_,(Option.some.inj h').symm,λt k' w hk=> ?_⟩
  rcases hk with hk|rfl
  ·simp[fB] at hk
  ·simp[binOp,Op.intCmp]
 |leq=>
  have h':cH (Uc a b)=some v:=h
  rw[bn,qw] at h'
  refine .inr ⟨_,(Option.some.inj h').symm,λt k' w hk=> ?_⟩
  rcases hk with hk|rfl
  ·simp[fB] at hk
  ·simp[binOp,Op.intCmp]
 |gtr=>
  have h':cH (El b a)=some v:=h
  rw[bn,jj] at h'
  refine .inr ⟨_,(Option.some.inj h').symm,λt k' w hk=> ?_⟩
  rcases hk with hk|rfl
  ·simp[fB] at hk
  ·simp[binOp,Op.intCmp]
 |geq=>
  have h':cH (Uc b a)=some v:=h
  rw[bn,qw] at h'
  refine .inr ⟨_,(Option.some.inj h').symm,λt k' w hk=> ?_⟩
  rcases hk with hk|rfl
  ·simp[fB] at hk
  ·simp[binOp,Op.intCmp]
open Go
theorem bits_nat {op:BinOp} {k:IntKind} {a b r:Nat} (hop:op= .and∨op= .or∨op= .andNot) (ha:a<bE k) (hb:b<bE k) (hr:rx op k a b=some r):iK op k (.ofNat a) (.ofNat b)=some (.int k (.lit (.ofNat r))):=by
 have:iK op k (.ofNat a) (.ofNat b)=gC op k (.ofNat a) (.ofNat b):=by rcases hop with rfl|rfl|rfl<;>rfl
 rw[this]
 unfold gC
 simp only[bO]
 rw[adH (show Nat.succ a<=bE k from ha),adH (show Nat.succ b<=bE k from hb)]
 simp only[cond_true,hr,bc]
end Nm
namespace Nm
open Go
variable {n:NOp} {x v' u:Value} {T e i f off B o len src T' bytes S:Nat} {y q:NOpd} {type:TypeId} {pos:String} {after:Array Edge} {guard:Option (Nat×Bool)} {dst:Option Tmp} {v:NV} {r:NR} {α β R:Type} {w w':World} {d:TypeDesc} {h:NH} {P:Program} {id:D4} {z l cs c:List NV} {op:BinOp} {l' vs xs:List Value} {s b mx:Bool} {place:Nat->Option (Nat×Nat)} {ps:List (Nat×Nat×NOpd)} {t:Tm} {k:IntKind} {a:Code} {ops:Array Oper} {K:List NV->NR} {cur:Array Value} {fd:Field} {fs:Array Field} {qs:List (Nat×Value)} {rnd:Option D4} {ctx:Option NV} {lo hi:Option NOpd} {vl vh:Option Value} {listed:Array Bool}
structure Pl where
 b:Nat
 o:Nat
 n:Nat
variable {p:Pl}
abbrev aZ:=D4->Option Pl
mutual
inductive VR (ι:aZ):NV->Value->Prop
 |bool (b:Bool):VR ι (.bool b) (.bool b)
 |int (k:IntKind) (n:Int):VR ι (.int k (.lit n)) (.int k n)
 |str (l:List Nat) (s:ByteArray) (h:s.data.toList.map UInt8.toNat=l):VR ι (.str l) (.string s)
 |nilp:VR ι .nilp (.pointer none)
 |ptr (id:D4) (off:Nat) (p:Pl) (h:ι id=some p):VR ι (.ptr id off) (.pointer (some ⟨p.b,p.o+off,none⟩))
 |nils:VR ι .nils (.slice none 0 0)
 |slc (id:D4) (off len e kc:Nat) (p:Pl) (a:Addr) (cap:Nat) (h:ι id=some p) (hl:len<=cap) (hk:kc<=cap) (hm:cap<=maxLen) (he:0<e)
  (ha:0<cap->a=⟨p.b,p.o+off,none⟩/\p.o+off+cap*e<=p.n):VR ι (.slc id off len e kc) (.slice (some a) len cap)
 |nilm:VR ι .nilm (.map none)
 |map (id:D4) (p:Pl) (h:ι id=some p):VR ι (.map id) (.map (some p.b))
 |nilf:VR ι .nilf .nilFunc
 |fn (f:Nat) (cap:List NV) (cap':List Value) (h:VRL ι cap cap'):VR ι (.fn f cap) (.func (.func f) #[] cap'.toArray)
 |yld (l:D4) (p:Pl) (h:ι l=some p):VR ι (.yld l) (.func (.yield p.b) #[] #[])
 |nili:VR ι .nili .nilIface
 |ifc (t:Nat) (v:NV) (v':Value) (h:VR ι v v'):VR ι (.ifc t v) (.iface t v')
 |agg (l:List NV) (l':List Value) (h:VRL ι l l') (h1:∀v∈l',v.oneCell'=true):VR ι (.agg l) (.agg l'.toArray)
 |tup (l:List NV) (l':List Value) (h:VRL ι l l'):VR ι (.tup l) (.tuple l'.toArray)
inductive VRL (ι:aZ):List NV->List Value->Prop
 |nil:VRL ι [] []
 |cons (v:NV) (v':Value) (l:List NV) (l':List Value) (h:VR ι v v') (hl:VRL ι l l'):VRL ι (v::l) (v'::l')
end
variable {ι ι':aZ}
def aZ.le (ι ι':aZ):Prop:=∀id p,ι id=some p->ι' id=some p
theorem aZ.le_refl (ι:aZ):ι.le ι:=λ_ _ h=>h
theorem aZ.le.trans {a b c:aZ} (h:a.le b) (k:b.le c):a.le c:=λid p x=>k id p (h id p x)
mutual
theorem VR.mono  (hι:ι.le ι'):∀{v:NV} {v':Value},VR ι v v'->VR ι' v v'
 |_,_,.bool b=> .bool b
 |_,_,.int k n=> .int k n
 |_,_,.str l s h=> .str l s h
 |_,_,.nilp=> .nilp
 |_,_,.ptr id off p h=> .ptr id off p (hι _ _ h)
 |_,_,.nils=> .nils
 |_,_,.slc id off len e kc p a cap h hl hk hm he ha=> .slc id off len e kc p a cap (hι _ _ h) hl hk hm he ha
 |_,_,.nilm=> .nilm
 |_,_,.map id p h=> .map id p (hι _ _ h)
 |_,_,.nilf=> .nilf
 |_,_,.fn f c c' h=> .fn f c c' (VRL.mono hι h)
 |_,_,.yld l p h=> .yld l p (hι _ _ h)
 |_,_,.nili=> .nili
 |_,_,.ifc t v v' h=> .ifc t v v' (VR.mono hι h)
 |_,_,.agg l l' h h1=> .agg l l' (VRL.mono hι h) h1
 |_,_,.tup l l' h=> .tup l l' (VRL.mono hι h)
theorem VRL.mono  (hι:ι.le ι'):∀{v:List NV} {v':List Value},VRL ι v v'->VRL ι' v v'
 |_,_,.nil=> .nil
 |_,_,.cons v v' l l' h hl=> .cons v v' l l' (VR.mono hι h) (VRL.mono hι hl)
end
theorem VRL.length  (h:VRL ι l l'):l.length=l'.length:=by
 induction l generalizing l' with
 |nil=>cases h;rfl
 |cons v l ih=>cases h with|cons _ _ _ _ h hl=>simp[ih hl]
theorem VRL.get  (h:VRL ι l l') (hi:l[i]? =some v):∃v',l'[i]? =some v'/\VR ι v v':=by
 induction l generalizing l' i with
 |nil=>simp at hi
 |cons a l ih=>cases h with
  |cons _ a' _ l' h hl=>cases i with
   |zero=>simp at hi;subst hi;exact⟨a',rfl,h⟩
   |succ i=>simpa using ih hl (by simpa using hi)
theorem VRL.app  {m:List NV} {m':List Value} (h:VRL ι l l') (k:VRL ι m m'):VRL ι (l++m) (l'++m'):=by
 induction l generalizing l' with
 |nil=>cases h;exact k
 |cons a l ih=>cases h with|cons _ _ _ _ h hl=>exact .cons _ _ _ _ h (ih hl)
theorem VRL.drop  (h:VRL ι l l') (n:Nat):VRL ι (l.drop n) (l'.drop n):=by
 induction n generalizing l l' with
 |zero=>simpa using h
 |succ n ih=>cases h with
  |nil=>simpa using VRL.nil
  |cons _ _ _ _ h hl=>simpa using ih hl
theorem VRL.take  (h:VRL ι l l') (n:Nat):VRL ι (l.take n) (l'.take n):=by
 induction n generalizing l l' with
 |zero=>simpa using VRL.nil
 |succ n ih=>cases h with
  |nil=>simpa using VRL.nil
  |cons _ _ _ _ h hl=>simpa using .cons _ _ _ _ h (ih hl)
theorem VRL.rep  (h:VRL ι l l') (n:Nat):VRL ι (Nm.rep n l) (Nm.rep n l'):=by
 induction n with
 |zero=>exact .nil
 |succ n ih=>exact h.app ih
theorem VRL.of_get :∀{l:List NV} {l':List Value},l.length=l'.length->(∀(i:Nat) (v:NV),l[i]? =some v->∃v':Value,l'[i]? =some v'/\VR ι v v')->VRL ι l l'
 | [], [],_,_=> .nil
 | [],_::_,h,_=>by simp at h
 |_::_, [],h,_=>by simp at h
 |v::l,v'::l',h,k=>by
  obtain⟨u,hu,hv⟩:=k 0 v rfl
  simp at hu;subst hu
  exact .cons _ _ _ _ hv (VRL.of_get (by simpa using h) λi v hi=>by simpa using k (i+1) v (by simpa using hi))
theorem VR.cells  (h:VR ι v v') (hc:cellsOf v=some cs):VRL ι cs v'.cells.toList/\∀u∈v'.cells.toList,u.oneCell'=true:=by
 have one:∀{v:NV} {v':Value},VR ι v v'->v'.oneCell'=true->v'.cells=#[v']->VRL ι [v] v'.cells.toList/\∀u∈v'.cells.toList,u.oneCell'=true:=by
  intro v v' h h1 h2;rw[h2];exact⟨.cons _ _ _ _ h .nil,by simpa using h1⟩
 cases h with
 |agg l l' h h1=>simp[cellsOf] at hc;subst hc;exact⟨by simpa [Value.cells] using h,by simpa [Value.cells] using h1⟩
 |tup=>simp[cellsOf] at hc
 |_=>simp[cellsOf] at hc;subst hc;exact one (by constructor<;>assumption) rfl rfl
def Xt (ι:aZ):Prop:=∀g,g<NG->ι (D4.of g)=some ⟨g,0,GN g⟩
theorem Xt.mono  (hι:ι.le ι') (h:Xt ι):Xt ι':=λg hg=>hι _ _ (h g hg)
def TR (ι:aZ) (t:Tm) (a:Array Value):Prop:=Xt ι/\∀k v,NT.get (D4.of k) t=some v->∃v',a[k]? =some v'/\VR ι v v'
theorem TR.mono  (hι:ι.le ι') {a:Array Value} (h:TR ι t a):TR ι' t a:=⟨h.1.mono hι,λk v hk=>let ⟨v',h1,h2⟩:=h.2 k v hk;⟨v',h1,h2.mono hι⟩⟩
theorem TR.put  {a:Array Value} (h:TR ι t a) {k:Nat} (hk:k<a.size) (hv:VR ι v v'):TR ι (NT.put (D4.of k) v t) (a.setIfInBounds k v'):=by
 refine⟨h.1,λj u hj=> ?_⟩
 by_cases hjk:j=k
 ·subst hjk
  rw[NT.get_put_same] at hj
  cases hj
  exact⟨v',by simp[hk],hv⟩
 ·rw[NT.get_put_ne (λe=>hjk (D4.of_inj e))] at hj
  obtain⟨u',h1,h2⟩:=h.2 j u hj
  exact⟨u',by rw[Array.getElem?_setIfInBounds_ne (Ne.symm hjk)];exact h1,h2⟩
def MR (ι:aZ):List (NV×NV)->List MapEntry->Prop
 | [], []=>True
 |e::l,e'::l'=>VR ι e.1 e'.key/\VR ι e.2 e'.val/\MR ι l l'
 |_,_=>False
def JR:Jump->Option Code->Prop
 | .none,j=>j=none
 | .ret,j=>j=some .ret
 | .exit id,j=>j=some (.exit id)
def SR:Nat->LoopState->Prop
 |0,s=>s= .ready
 |1,s=>s= .busy
 |2,s=>s= .done
 |3,s=>s= .exhausted
 |_,_=>False
def OR (P:Program) (ι:aZ) (w:World) (p:Pl):NO->Prop
 | .defd b=>w.heap[p.b]? =some (.deferred (if b then some [] else none))
 | .cells wr c=>∃(cur:Array Value) (T:TypeId) (fz:Nat×Nat),w.heap[p.b]? =some (.cells cur T fz)/\(wr=true->fz=(0,0))/\cur.size=p.n/\p.o+c.length<=p.n/\
  ∀i v,c[i]? =some v->∃v',cur[p.o+i]? =some v'/\VR ι v v'/\v'.oneCell'=true
 | .map l=>∃es clock,w.heap[p.b]? =some (.map es clock)/\MR ι l es.toList/\MapKept.Stamped es clock
 | .iter l _=>∀x,l= [(x,.tup [])]->p.o=0/\∃v' T fz,w.heap[p.b]? =some (.cells #[v'] T fz)/\VR ι x v'
 | .loop st pend t ps a b=>∃L:Loop,w.heap[p.b]? =some (.loop L)/\SR st L.state/\JR pend L.pending/\TR ι t L.tmps/\ps=L.params.toList.map D4.of/\cZ P L.assign=some a/\cZ P L.body=some b/\
  (∃fn bl la lb,P.funcs[L.fn]? =some fn/\fn.ntmps<=L.tmps.size/\CheckCode.code P fn [] [] L.assign= .ok ()/\CheckCode.code P fn bl la L.body= .ok ()/\lb=bl)/\(∀q∈L.params.toList,q<L.tmps.size)
 | .dead=>True
def Live (o:Option NO):Prop:=o≠some .dead/\∀c,o≠some (.cells false c)
@[simp] theorem V2 (c:List NV):Live (some (.cells true c)):=by simp[Live]
@[simp] theorem Y8 (l:List (NV×NV)):Live (some (.map l)):=by simp[Live]
@[simp] theorem XY (b:Bool):Live (some (.defd b)):=by simp[Live]
@[simp] theorem XP (s:Nat) (p:Jump) (t:NT NV) (ps:List D4) (a b:NC):Live (some (.loop s p t ps a b)):=by simp[Live]
structure Rel (P:Program) (ι:aZ) (B:Nat) (h:NH) (w:World):Prop where
 obj:∀i p,ι i=some p->∃o,h.get i=some o/\OR P ι w p o
 inj:∀i j p q,ι i=some p->ι j=some q->i≠j->Live (h.get i)->h.get j≠some .dead->p.b≠q.b
 base:∀i p,ι i=some p->Live (h.get i)->B<=p.b
 lt:∀i p,ι i=some p->p.b<w.heap.size
 fresh:∀i o,h.get i=some o->i.toNat<h.next.toNat
 gl:Xt ι
structure Grow (ι:aZ) (h:NH) (w:World) (ι':aZ) (h':NH) (w':World):Prop where
 le:ι.le ι'
 next:h.next.toNat<=h'.next.toNat
 new:∀i p,ι' i=some p->ι i=some p∨h.next.toNat<=i.toNat
 blk:∀i p,ι' i=some p->Live (h'.get i)->w.heap.size<=p.b∨∃j q,ι j=some q/\Live (h.get j)/\q.b=p.b
 keep:∀i,ι i=none->i.toNat<h.next.toNat->h'.get i=h.get i
 size:w.heap.size<=w'.heap.size
 os:w'.os=w.os
 tape:w'.tape=w.tape
 output:w'.output=w.output
 frame:∀b,b<w.heap.size->(∀i p,ι i=some p->Live (h.get i)->p.b≠b)->w'.heap[b]? =w.heap[b]?
theorem Grow.refl (ι:aZ) (h:NH) (w:World):Grow ι h w ι h w:=
 ⟨aZ.le_refl _,aa2 _,λ_ _ x=> .inl x,λi p x y=> .inr ⟨i,p,x,y,rfl⟩,λ_ _ _=>rfl,aa2 _,rfl,rfl,rfl,λ_ _ _=>rfl⟩
theorem Grow.trans  {ι1 ι2:aZ} {h1 h2:NH} {w1 w2:World} (a:Grow ι h w ι1 h1 w1) (b:Grow ι1 h1 w1 ι2 h2 w2):Grow ι h w ι2 h2 w2 where
 le:=a.le.trans b.le
 next:=ab9 a.next b.next
 new:=λi p x=>by
  rcases b.new i p x with y|y
  ·exact a.new i p y
  ·exact .inr (ab9 a.next y)
 blk:=λi p x y=>by
  rcases b.blk i p x y with z|⟨j,q,z1,z2,z3⟩
  ·exact .inl (ab9 a.size z)
  ·rw[←z3];exact a.blk j q z1 z2
 keep:=λi x y=>by
  have h1:ι1 i=none:=by
   cases hi:ι1 i with
   |none=>rfl
   |some p=>
    rcases a.new i p hi with z|z
    ·rw[x] at z;cases z
    ·omega
  rw[b.keep i h1 (ad2 y a.next),a.keep i x y]
 size:=ab9 a.size b.size
 os:=b.os.trans a.os
 tape:=b.tape.trans a.tape
 output:=b.output.trans a.output
 frame:=λk x y=>by
  rw[b.frame k (ad2 x a.size) ?_,a.frame k x y]
  intro i p h1 h2 e
  rcases a.blk i p h1 h2 with z|⟨j,q,z1,z2,z3⟩
  ·omega
  ·exact y j q z1 z2 (z3.trans e)
theorem Rel.drew  (r:Rel P ι B h w):Rel P ι B h w.drew:=
 ⟨r.obj,r.inj,r.base,r.lt,r.fresh,r.gl⟩
theorem Grow.drew  {h':NH} (g:Grow ι h w ι' h' w'):Grow ι h w ι' h' w'.drew:=
 ⟨g.le,g.next,g.new,g.blk,g.keep,g.size,g.os,g.tape,g.output,g.frame⟩
theorem OR.mono  (hι:ι.le ι') {o:NO} (h:OR P ι w p o) (hb:w'.heap[p.b]? =w.heap[p.b]?):OR P ι' w' p o:=by
 cases o with
 |defd b=>simpa [OR,hb] using h
 |cells wr c=>
  obtain⟨cur,T,fz,h1,h2,h3,h4,h5⟩:=h
  exact⟨cur,T,fz,hb.trans h1,h2,h3,h4,λi v hi=>let ⟨v',a,b,c⟩:=h5 i v hi;⟨v',a,b.mono hι,c⟩⟩
 |map l=>
  obtain⟨es,clock,h1,h2,hst⟩:=h
  refine⟨es,clock,hb.trans h1, ?_,hst⟩
  revert h2
  generalize es.toList=m
  induction l generalizing m with
  |nil=>cases m with
   |nil=>exact λ_=>trivial
   |cons=>exact λh=>h.elim
  |cons e l ih=>
   cases m with
   |nil=>exact λh=>h.elim
   |cons e' m=>exact λ⟨a,b,c⟩=>⟨a.mono hι,b.mono hι,ih m c⟩
 |iter l c=>exact λx e=>by obtain⟨h0,v',T,fz,h1,h2⟩:=h x e;exact⟨h0,v',T,fz,hb.trans h1,h2.mono hι⟩
 |loop st pend t ps a b=>
  obtain⟨L,h1,h2,h3,h4,h5⟩:=h
  exact⟨L,hb.trans h1,h2,h3,h4.mono hι,h5⟩
 |dead=>trivial
theorem kl (w:World) (o:Obj) (k:Nat) (h:k<w.heap.size):(w.alloc o).heap[k]? =w.heap[k]? :=by
 show (w.heap.push o)[k]? =_
 rw[Array.getElem?_push,adE (by omega)]
theorem eF (w:World) (o:Obj):(w.alloc o).heap[w.heap.size]? =some o:=by
 show (w.heap.push o)[w.heap.size]? =_
 rw[Array.getElem?_push,adF rfl]
theorem Rel.alloc  (r:Rel P ι B h w) (hB:B<=w.heap.size) (o:NO) (O:Obj) (p:Pl) (hp:p.b=w.heap.size)
 (ho:∀ι',ι.le ι'->OR P ι' (w.alloc O) p o):∃ι',ι' h.next=some p/\ι.le ι'/\Rel P ι' B (h.add o) (w.alloc O)/\Grow ι h w ι' (h.add o) (w.alloc O):=by
 have hn:ι h.next=none:=by
  cases hi:ι h.next with
  |none=>rfl
  |some q=>obtain⟨o,h1,_⟩:=r.obj _ _ hi;exact adD (r.fresh _ _ h1) (ad6 _)
 have hne:∀i q,ι i=some q->i≠h.next:=λi q hi e=>by rw[e,hn] at hi;cases hi
 let ι':aZ:=λi=>if i.toNat=h.next.toNat then some p else ι i
 have hold:∀i,i≠h.next->ι' i=ι i:=λi hi=>adE λe=>hi (D4.toNat_inj e)
 have hnew:ι' h.next=some p:=adF rfl
 have hle:ι.le ι':=λi q hi=>by rw[hold i (hne i q hi)];exact hi
 have hcases:∀i q,ι' i=some q->(i=h.next/\q=p)∨(i≠h.next/\ι i=some q):=λi q hi=>by
  by_cases e:i=h.next
  ·subst e;rw[hnew] at hi;exact .inl ⟨rfl,(Option.some.inj hi).symm⟩
  ·rw[hold i e] at hi;exact .inr ⟨e,hi⟩
 refine⟨ι',hnew,hle,⟨?_, ?_, ?_, ?_, ?_,r.gl.mono hle⟩,⟨hle, ?_, ?_, ?_, ?_,by simp,rfl,rfl,rfl,λb hb _=>kl w O b hb⟩⟩
 ·intro i q hi
  rcases hcases i q hi with⟨rfl,rfl⟩|⟨hne',hi⟩
  ·exact⟨o,NH.get_add_same _ _,ho ι' hle⟩
  ·obtain⟨u,h1,h2⟩:=r.obj i q hi
   exact⟨u,by rw[NH.get_add_ne _ _ hne'];exact h1,h2.mono hle (kl w O _ (r.lt i q hi))⟩
 ·intro i j q1 q2 hi hj hij d1 d2
  rcases hcases i q1 hi with⟨e1,e2⟩|⟨h1,hi'⟩
  ·rcases hcases j q2 hj with⟨e3,e4⟩|⟨h2,hj'⟩
   ·exact adD (e1.trans e3.symm) hij
   ·have:=r.lt j q2 hj';rw[e2];omega
  ·rcases hcases j q2 hj with⟨e3,e4⟩|⟨h2,hj'⟩
   ·have:=r.lt i q1 hi';rw[e4];omega
   ·rw[NH.get_add_ne _ _ h1] at d1
    rw[NH.get_add_ne _ _ h2] at d2
    exact r.inj i j q1 q2 hi' hj' hij d1 d2
 ·intro i q hi d
  rcases hcases i q hi with⟨rfl,rfl⟩|⟨h1,hi⟩
  ·omega
  ·rw[NH.get_add_ne _ _ h1] at d;exact r.base i q hi d
 ·intro i q hi
  rcases hcases i q hi with⟨rfl,rfl⟩|⟨h1,hi⟩
  ·simp;omega
  ·have:=r.lt i q hi;simp;omega
 ·intro i u hu
  show i.toNat<h.next.nxt.toNat
  rw[D4.toNat_nxt]
  by_cases e:i=h.next
  ·subst e;omega
  ·rw[NH.get_add_ne _ _ e] at hu;have:=r.fresh i u hu;omega
 ·show h.next.toNat<=h.next.nxt.toNat
  rw[D4.toNat_nxt];omega
 ·intro i q hi
  rcases hcases i q hi with⟨rfl,rfl⟩|⟨h1,hi⟩
  ·exact .inr (aa2 _)
  ·exact .inl hi
 ·intro i q hi d
  rcases hcases i q hi with⟨rfl,rfl⟩|⟨h1,hi⟩
  ·exact .inl (by omega)
  ·rw[NH.get_add_ne _ _ h1] at d;exact .inr ⟨i,q,hi,d,rfl⟩
 ·intro i _ hlt
  exact NH.get_add_ne _ _ (λe=>by rw[e] at hlt;exact ad6 _ hlt)
theorem Rel.turn  (r:Rel P ι B h w) {i:D4} (hi:ι i=some p) (hd:Live (h.get i)) (o:NO) (ho:OR P ι w' p o)
 (hsize:w'.heap.size=w.heap.size) (hos:w'.os=w.os) (htape:w'.tape=w.tape) (hout:w'.output=w.output) (hframe:∀b,b≠p.b->w'.heap[b]? =w.heap[b]?):
 Rel P ι B (h.put i o) w'/\Grow ι h w ι (h.put i o) w':=by
 obtain⟨o0,ho0,_⟩:=r.obj i p hi
 have hnd:∀j,Live ((h.put i o).get j)->Live (h.get j):=λj hj=>by
  by_cases e:j=i
  ·subst e;exact hd
  ·rw[NH.get_put_ne _ _ e] at hj;exact hj
 have hne:∀j,(h.put i o).get j≠some .dead->h.get j≠some .dead:=λj hj=>by
  by_cases e:j=i
  ·subst e;exact hd.1
  ·rw[NH.get_put_ne _ _ e] at hj;exact hj
 refine⟨⟨?_, ?_, ?_, ?_, ?_,r.gl⟩,⟨aZ.le_refl _,aa2 _,λ_ _ x=> .inl x,λj q x y=> .inr ⟨j,q,x,hnd j y,rfl⟩, ?_,by omega,hos,htape,hout, ?_⟩⟩
 ·intro j q hj
  by_cases e:j=i
  ·subst e;rw[hi] at hj;cases hj;exact⟨o,NH.get_put_same _ _ _,ho⟩
  ·obtain⟨u,h1,h2⟩:=r.obj j q hj
   refine⟨u,by rw[NH.get_put_ne _ _ e];exact h1, ?_⟩
   by_cases hu:u= .dead
   ·subst hu;trivial
   ·exact h2.mono (aZ.le_refl _) (hframe q.b (r.inj i j p q hi hj (Ne.symm e) hd (by rw[h1];simpa using hu)).symm)
 ·exact λj k q1 q2 hj hk hjk d1 d2=>r.inj j k q1 q2 hj hk hjk (hnd j d1) (hne k d2)
 ·exact λj q hj d=>r.base j q hj (hnd j d)
 ·exact λj q hj=>by rw[hsize];exact r.lt j q hj
 ·intro j u hu
  show j.toNat<h.next.toNat
  by_cases e:j=i
  ·subst e;exact r.fresh _ _ ho0
  ·rw[NH.get_put_ne _ _ e] at hu;exact r.fresh j u hu
 ·intro j x _
  exact NH.get_put_ne _ _ (λe=>by rw[e,hi] at x;cases x)
 ·intro b _ hb
  exact hframe b (λe=>hb i p hi hd e.symm)
open Go
theorem aT  {x:NOpd} {K:NV->NR} (h:wV t x K=r) (hr:r≠.fail):∃v,ρ t x=some v/\K v=r:=by
 unfold wV at h
 cases hx:ρ t x with
 |none=>rw[hx] at h;exact adD h.symm hr
 |some v=>rw[hx] at h;exact⟨v,rfl,h⟩
theorem aR  {o:Option α} {K:α->NR} (h:aS o K=r) (hr:r≠.fail):∃v,o=some v/\K v=r:=by
 cases o with
 |none=>exact adD h.symm hr
 |some v=>exact⟨v,rfl,h⟩
theorem aY  {x:NR} (h:cond b x .fail=r) (hr:r≠.fail):b=true/\x=r:=by
 cases b with
 |true=>exact⟨rfl,h⟩
 |false=>exact adD h.symm hr
theorem H7  {n:Nat} (h:kJ v=some n):∃k,v= .int k (.lit (.ofNat n)):=by
 unfold kJ at h
 split at h
 ·cases h;exact⟨_,rfl⟩
 ·cases h
theorem ee  {x:NOpd} {K:Nat->NR} (h:gR t x K=r) (hr:r≠.fail):∃k n,ρ t x=some (.int k (.lit (.ofNat n)))/\K n=r:=by
 obtain⟨v,h1,h2⟩:=aT h hr
 obtain⟨n,h3,h4⟩:=aR h2 hr
 obtain⟨k,rfl⟩:=H7 h3
 exact⟨k,n,h1,h4⟩
theorem jq  (e:cz h id K=r) (hr:r≠.fail):∃wr c,h.get id=some (.cells wr c)/\K c=r:=by
 unfold cz at e
 split at e
 ·rename_i wr c hc;exact⟨wr,c,hc,e⟩
 ·exact adD e.symm hr
theorem fg  (e:eA h id K=r) (hr:r≠.fail):∃c,h.get id=some (.cells true c)/\K c=r:=by
 unfold eA at e
 split at e
 ·rename_i wr c hc
  obtain⟨rfl,e⟩:=aY e hr
  exact⟨c,hc,e⟩
 ·exact adD e.symm hr
theorem Ln {o:Option NV} (h:vr o=r) (hr:r≠.fail):∃v,o=some v/\r= .val v:=by
 cases o with
 |none=>exact adD h.symm hr
 |some v=>exact⟨v,rfl,h.symm⟩
def bJ (P:Program) (ι:aZ) (B:Nat) (h:NH) (w:World) (r:NR) (res:Result Next):Prop:=
 match r with
 | .fail=>True
 | .val v=>∃v',res= .ok (.value v') w/\VR ι v v'
 | .mem v h'=>∃v' w' ι',(res= .ok (.value v') w'∨res= .ok .skip w'/\v'=undef)/\VR ι' v v'/\Rel P ι' B h' w'/\Grow ι h w ι' h' w'
 | .call f args=>∃args',VRL ι args args'/\res=(callFunc f args'.toArray).run P w
 | .yld l args=>∃args' p,ι l=some p/\VRL ι args args'/\res=(Instr.yield p.b args'.toArray).run P w
 | .pan v=>∃v',VR ι v v'/\res= .halt (.panic v') w
 | .dfr f cap=>∃cap',VRL ι cap cap'/\res= .ok (.defer {target:= .fn (.func f) cap'.toArray,args:=#[]}) w
 | .recov=>res= .ok .recover w
def OV (ι:aZ) (t:Tm) (y:NOpd) (x:Value):Prop:=∀v,ρ t y=some v->VR ι v x
section
variable {P:Program} {ι:aZ} {B:Nat} {h:NH} {w:World} {t:Tm}
theorem bh  {res:Result Next} (H:r≠.fail->bJ P ι B h w r res):bJ P ι B h w r res:=by
 cases r<;>first|trivial|exact H (by simp)
theorem pN  (hx:OV ι t y x):bJ P ι B h w (ED y t h) (.ok (.value x) w):=
 bh λhr=>by
  obtain⟨v,h1,h2⟩:=aT rfl hr
  unfold ED at *
  rw[←h2]
  exact⟨x,rfl,hx v h1⟩
theorem Gh {c a b:NOpd} {xc xa xb:Value} (hc:OV ι t c xc) (ha:OV ι t a xa) (hb:OV ι t b xb):
 bJ P ι B h w (Fy c a b t h) ((do pure (Next.value (if ←asBool xc then xa else xb)):Sem Next).run P w):=
 bh λhr=>by
  obtain⟨v,h1,h2⟩:=aT rfl hr
  unfold Fy at *
  rw[←h2]
  rw[←h2] at hr
  have hv:=hc v h1
  cases hv with
  |bool q=>
   cases q with
   |true=>
    obtain⟨u,h3,h4⟩:=aT (t:=t) (x:=a) (K:= .val) rfl hr
    show bJ P ι B h w (wV t a .val) _
    rw[←h4]
    exact⟨xa,by simp[asBool],ha u h3⟩
   |false=>
    obtain⟨u,h3,h4⟩:=aT (t:=t) (x:=b) (K:= .val) rfl hr
    show bJ P ι B h w (wV t b .val) _
    rw[←h4]
    exact⟨xb,by simp[asBool],hb u h3⟩
  |_=>exact adD rfl hr
end
open Go
section
variable {P:Program} {ι:aZ} {B:Nat} {h:NH} {w:World} {t:Tm}
theorem Iy  (hf:flat l=true):∀v∈l,mS v=true:=by
 induction l with
 |nil=>simp
 |cons a l ih=>
  have e:flat (a::l)=cond (mS a) (flat l) false:=rfl
  rw[e] at hf
  cases ha:mS a with
  |false=>rw[ha] at hf;cases hf
  |true=>rw[ha] at hf;intro v hv;rcases aa1.1 hv with rfl|hv;exact ha;exact ih hf v hv
theorem VR.flat  (hv:VR ι v v') (hf:mS v=true):v'.oneCell'=true:=by
 cases hv<;>first|rfl|cases hf
theorem VRL.flat  (hl:VRL ι l l') (hf:Nm.flat l=true):∀v∈l',v.oneCell'=true:=by
 induction l generalizing l' with
 |nil=>cases hl;simp
 |cons a l ih=>cases hl with
  |cons _ a' _ l' h1 h2=>
   intro v hv
   have hs:=Iy hf
   rcases aa1.1 hv with rfl|hv
   ·exact h1.flat (hs a (by simp))
   ·refine ih h2 ?_ v hv
    have e:Nm.flat (a::l)=cond (mS a) (Nm.flat l) false:=rfl
    rw[e,hs a (by simp)] at hf;exact hf
theorem we {l:List UInt8} {r:List Nat} (h:nO l=some r):l.map UInt8.toNat=r:=by
 induction l generalizing r with
 |nil=>cases h;rfl
 |cons b l ih=>
  have e:nO (b::l)=Option.rec none (λt=>aG b.toNat λn=>some (n::t)) (nO l):=rfl
  rw[e] at h
  cases hb:nO l with
  |none=>rw[hb] at h;cases h
  |some t=>rw[hb] at h;simp only[aj] at h;cases h;simp[ih hb]
theorem zk  (k:IntKind) (K:IntKind->R):HV k K=K k:=by cases k<;>rfl
theorem mg {f:Value->Option NV} (hf:∀v n,f v=some n->VR ι n v) {l:List Value} {r:List NV} (h:jV f l=some r):VRL ι r l:=by
 induction l generalizing r with
 |nil=>cases h;exact .nil
 |cons a l ih=>
  have e:jV f (a::l)=Option.rec none (λv=>Option.rec none (λl=>some (v::l)) (jV f l)) (f a):=rfl
  rw[e] at h
  cases ha:f a with
  |none=>rw[ha] at h;cases h
  |some v=>
   rw[ha] at h
   cases hl:jV f l with
   |none=>rw[hl] at h;cases h
   |some r'=>rw[hl] at h;cases h;exact .cons _ _ _ _ (hf a v ha) (ih hl)
theorem rh:∀(d:Nat) (v:Value) (n:NV),iH d v=some n->VR ι n v:=by
 intro d
 induction d with
 |zero=>intro v n h;cases h
 |succ d ih=>
  intro v n h
  have e:iH (d+1) v=pQ (iH d) v:=rfl
  rw[e] at h
  unfold pQ at h
  split at h
  ·cases h;exact .bool _
  ·cases h;exact .bool _
  ·rw[zk,bc] at h;cases h;exact .int _ _
  ·rename_i s
   cases hb:nO s.data.toList with
   |none=>rw[hb] at h;cases h
   |some l=>rw[hb] at h;cases h;exact .str _ _ (we hb)
  ·cases h;exact .nilp
  ·cases h;exact .nils
  ·cases h;exact .nilm
  ·cases h;exact .nilf
  ·cases h;exact .nili
  ·rename_i l
   cases hb:jV (iH d) l.toList with
   |none=>rw[hb] at h;cases h
   |some r=>
    rw[hb] at h
    have hr:=mg ih hb
    cases hfl:Nm.flat r with
    |false=>simp only[hfl,cond_false] at h;cases h
    |true=>simp only[hfl,cond_true] at h;cases h;simpa using VR.agg r l.toList hr (hr.flat hfl)
  ·rename_i l
   cases hb:jV (iH d) l.toList with
   |none=>rw[hb] at h;cases h
   |some r=>rw[hb] at h;cases h;simpa using VR.tup r l.toList (mg ih hb)
  ·cases h
theorem eQ {v:Value} {n:NV} (h:ofValue v=some n):VR ι n v:=rh _ _ _ h
theorem cF  {n:Nat} (h:b9 P T=some n):∃i,P.info? T=some i/\i.size=n:=by
 unfold b9 at h
 cases hi:P.info? T with
 |none=>rw[hi] at h;cases h
 |some i=>rw[hi] at h;simp only[aj] at h;cases h;exact⟨i,rfl,rfl⟩
theorem lk  {n:Nat} (h:jO P T=some n):∃i,P.info? T=some i/\i.bytes=n:=by
 unfold jO at h
 cases hi:P.info? T with
 |none=>rw[hi] at h;cases h
 |some i=>rw[hi] at h;simp only[aj] at h;cases h;exact⟨i,rfl,rfl⟩
theorem cK  (h:zeroOf P T=some z):∃i zv,P.info? T=some i/\i.zero=some zv/\i.size=z.length/\VRL ι z zv.cells.toList/\∀u∈zv.cells.toList,u.oneCell'=true:=by
 unfold zeroOf at h
 cases hi:P.info? T with
 |none=>rw[hi] at h;cases h
 |some i=>
  rw[hi] at h
  cases hz:i.zero with
  |none=>simp only[hz] at h;cases h
  |some zv=>
   simp only[hz] at h
   cases hv:ofValue zv with
   |none=>simp only[hv] at h;cases h
   |some nv=>
    simp only[hv] at h
    cases hc:cellsOf nv with
    |none=>simp only[hc] at h;cases h
    |some cs=>
     simp only[hc,bS] at h
     cases hn:Nat.beq cs.length i.size with
     |false=>rw[hn] at h;cases h
     |true=>
      rw[hn] at h;cases h
      have:=(eQ (ι:=ι) hv).cells hc
      exact⟨i,zv,rfl,hz,(adK hn).symm,this.1,this.2⟩
def a9 (r:Result Value):Result Next:=r.andThen λv w'=> .ok (.value v) w'
def EH (r:Result Unit):Result Next:=r.andThen λ_ w'=> .ok .skip w'
theorem fh (hR:Rel P ι B h w) (hB:B<=w.heap.size) (wr:Bool) (cs:List NV) (cur:Array Value) (T:TypeId) (hl:cs.length<=cur.size)
 (hc:∀(i:Nat) (v:NV),cs[i]? =some v->∃v':Value,cur[i]? =some v'/\VR ι v v'/\v'.oneCell'=true):
 ∃ι',ι' h.next=some ⟨w.heap.size,0,cur.size⟩/\ι.le ι'/\Rel P ι' B (h.add (.cells wr cs)) (w.alloc (.cells cur T))/\Grow ι h w ι' (h.add (.cells wr cs)) (w.alloc (.cells cur T)):=
 hR.alloc hB (.cells wr cs) (.cells cur T) ⟨w.heap.size,0,cur.size⟩ rfl λι' hle=>
  ⟨cur,T,(0,0),eF w _,λ_=>rfl,rfl,by simpa using hl,λi v hi=>let ⟨v',a,b,c⟩:=hc i v hi;⟨v',by simpa using a,b.mono hle,c⟩⟩
theorem VRL.at  (hl:VRL ι cs vs) (h1:∀u∈vs,u.oneCell'=true):∀(i:Nat) (v:NV),cs[i]? =some v->∃v':Value,vs.toArray[i]? =some v'/\VR ι v v'/\v'.oneCell'=true:=λi v hi=>by
 obtain⟨v',a,b⟩:=hl.get hi
 exact⟨v',by simpa using a,b,h1 v' (List.mem_of_getElem? a)⟩
theorem fO:VR ι aK undef:=VR.tup [] [] .nil
theorem Cg  (hz:zeroOf P T=some z) (hR:Rel P ι B h w) (hB:B<=w.heap.size) (T':Nat):bJ P ι B h w (uF z T' t h) (a9 ((Instr.alloc T true (.tuple #[])).run P w)):=by
 obtain⟨i,zv,hi,hzv,hsz,hzl,hz1⟩:=cK (ι:=ι) hz
 obtain⟨ι',h1,h2,h3,h4⟩:=fh hR hB true z zv.cells T (by rw[hzl.length];simp) (by simpa using hzl.at hz1)
 unfold uF
 rw[NH.new_eq]
 refine⟨_,_,ι',.inl ?_,VR.ptr _ 0 _ h1,h3,h4⟩
 simp[a9,Instr.alloc,zeroValue,typeInfo,hi,hzv,newVar,newRow]
theorem JD  (hx:OV ι t y x) (hR:Rel P ι B h w) (hB:B<=w.heap.size) (T T':Nat):bJ P ι B h w (KP y T' t h) (a9 ((Instr.box T x).run P w)):=
 bh λhr=>by
  obtain⟨v,h1,h2⟩:=aT rfl hr
  unfold KP at *
  rw[←h2];rw[←h2] at hr
  obtain⟨cs,h3,h4⟩:=aR rfl hr
  rw[←h4]
  have hc:=(hx v h1).cells h3
  obtain⟨ι',k1,k2,k3,k4⟩:=fh hR hB true cs x.cells T (by rw[hc.1.length];simp) (by simpa using hc.1.at hc.2)
  rw[NH.new_eq]
  refine⟨_,_,ι',.inl ?_,VR.ptr _ 0 _ k1,k3,k4⟩
  simp[a9,Instr.box,newVar,newRow]
theorem Rel.cellsAt (hR:Rel P ι B h w) (hp:ι id=some p) {wr:Bool} (hc:h.get id=some (.cells wr c)):
 ∃(cur:Array Value) (T:TypeId) (fz:Nat×Nat),w.heap[p.b]? =some (.cells cur T fz)/\(wr=true->fz=(0,0))/\cur.size=p.n/\p.o+c.length<=p.n/\
  ∀i v,c[i]? =some v->∃v',cur[p.o+i]? =some v'/\VR ι v v'/\v'.oneCell'=true:=by
 obtain⟨o,h1,h2⟩:=hR.obj id p hp
 rw[hc] at h1;cases h1
 exact h2
theorem pA (w:World) (g j:Nat) {cs:Array Value} {t:TypeId} {fr:Nat×Nat} (hg:w.heap[g]? =some (.cells cs t fr)):w.cell? ⟨g,j,none⟩=cs[j]? :=cell_of_row w g j cs t fr hg
theorem jA  (hl:o+c.length<=cur.size) (hc:∀(i:Nat) (v:NV),c[i]? =some v->∃v':Value,cur[o+i]? =some v'/\VR ι v v'/\v'.oneCell'=true) (off n:Nat) (hn:off+n<=c.length):
 ∃vs:List Value,vs.length=n/\VRL ι ((c.drop off).take n) vs/\(∀u∈vs,u.oneCell'=true)/\∀(j:Nat) (v:Value),vs[j]? =some v->cur[o+off+j]? =some v:=by
 have hat:∀(j:Nat) (v:Value),((cur.toList.drop (o+off)).take n)[j]? =some v->cur[o+off+j]? =some v:=by
  intro j v hv
  rw[List.getElem?_take] at hv
  split at hv
  ·simpa [List.getElem?_drop] using hv
  ·cases hv
 have hlen:((cur.toList.drop (o+off)).take n).length=n:=by simp;omega
 have hvr:VRL ι ((c.drop off).take n) ((cur.toList.drop (o+off)).take n):=by
  refine VRL.of_get (by rw[hlen];simp;omega) λi v hi=> ?_
  rw[List.getElem?_take] at hi
  split at hi
  ·rename_i hlt
   rw[List.getElem?_drop] at hi
   obtain⟨v',h1,h2,_⟩:=hc _ v hi
   refine⟨v', ?_,h2⟩
   rw[List.getElem?_take,adF hlt,List.getElem?_drop,Array.getElem?_toList,←h1]
   congr 1;omega
  ·cases hi
 refine⟨_,hlen,hvr,λu hu=> ?_,hat⟩
 obtain⟨j,hj,e⟩:=List.mem_iff_getElem.1 hu
 have h1:((cur.toList.drop (o+off)).take n)[j]? =some u:=by rw[List.getElem?_eq_getElem hj,e]
 have h2:=hat j u h1
 rw[hlen] at hj
 have h3:c[off+j]? =some (c[off+j]'(by omega)):=List.getElem?_eq_getElem (by omega)
 obtain⟨v',h4,_,h5⟩:=hc _ _ h3
 rw[show o+(off+j)=o+off+j by omega,h2] at h4
 cases h4;exact h5
theorem HT (d:TypeDesc):Xa d=d.isRow:=by cases d<;>rfl
theorem lU  {r:Option Nat} (h:nR P T=some r):∃d i,P.underlying T=some d/\P.info? T=some i/\match r with|none=>d.isRow=false/\i.size=1|some n=>d.isRow=true/\i.size=n:=by
 unfold nR at h
 split at h
 ·rename_i d n hd hs
  obtain⟨i,h1,h2⟩:=cF hs
  cases hr:Xa d with
  |true=>rw[hr] at h;cases h;exact⟨d,i,hd,h1,by rw[←HT];exact hr,h2⟩
  |false=>
   rw[hr] at h
   cases hq:Nat.beq n 1 with
   |false=>rw[hq] at h;cases h
   |true=>rw[hq] at h;cases h;exact⟨d,i,hd,h1,by rw[←HT];exact hr,by rw[h2];exact adK hq⟩
 ·cases h
theorem mU  (hd:P.underlying T=some d):(isAgg T).run P w= .ok d.isRow w:=by
 unfold isAgg
 rw[Sem.run_bind,run_underlying hd]
 cases d<;>rfl
theorem oF  (hT:nR P T=some none) (hx:OV ι t y x) (hR:Rel P ι B h w):bJ P ι B h w (gY y t h) (a9 ((Instr.loadAt T x).run P w)):=
 bh λhr=>by
  obtain⟨v,h1,h2⟩:=aT rfl hr
  unfold gY at *
  rw[←h2];rw[←h2] at hr
  have hv:=hx v h1
  cases hv with
  |ptr id off p hp=>
   dsimp only at hr ⊢
   obtain⟨wr,c,h3,h4⟩:=jq rfl hr
   rw[←h4];rw[←h4] at hr
   obtain⟨u,h5,h6⟩:=aR rfl hr
   rw[←h6]
   obtain⟨cur,T',fz,k1,_,_,_,k5⟩:=hR.cellsAt hp h3
   rw[fH] at h5
   obtain⟨v',m1,m2,_⟩:=k5 off u h5
   obtain⟨d,i,a1,a2,a3,_⟩:=lU hT
   refine⟨v', ?_,m2⟩
   have hc:w.cell? ⟨p.b,p.o+off,none⟩=some v':=by rw[pA w p.b _ k1];exact m1
   simp[a9,Instr.loadAt,Instr.sureAddr,loadVar,mU a1,a3,run_load,hc]
  |_=>exact adD rfl hr
theorem oG  {n:Nat} (hT:nR P T=some (some n)) (hx:OV ι t y x) (hR:Rel P ι B h w):bJ P ι B h w (ig n y t h) (a9 ((Instr.loadAt T x).run P w)):=
 bh λhr=>by
  obtain⟨v,h1,h2⟩:=aT rfl hr
  unfold ig at *
  rw[←h2];rw[←h2] at hr
  have hv:=hx v h1
  cases hv with
  |ptr id off p hp=>
   dsimp only at hr ⊢
   obtain⟨wr,c,h3,h4⟩:=jq rfl hr
   rw[←h4];rw[←h4] at hr
   obtain⟨u,h5,h6⟩:=aR rfl hr
   rw[←h6]
   obtain⟨cur,T',fz,k1,_,k3,k4,k5⟩:=hR.cellsAt hp h3
   rw[iS] at h5
   split at h5
   ·rename_i hle
    cases h5
    obtain⟨vs,m1,m2,m3,m4⟩:=jA (by omega) k5 off n hle
    obtain⟨d,i,a1,a2,a3,a4⟩:=lU hT
    refine⟨_, ?_,VR.agg _ vs m2 m3⟩
    have hc:w.rangeAt p.b (p.o+off) vs:=λj v hv=>by rw[pA w p.b _ k1];exact m4 j v hv
    rw[run_loadAt_mid w p.b (p.o+off) T vs d hc a1 a3 (by rw[a2,m1];simp[a4])]
    rfl
   ·cases h5
  |_=>exact adD rfl hr
theorem setRow_size (w:World) (g:Nat) (cs:Array Value):(w.setRow g cs).heap.size=w.heap.size:=by simp[World.setRow]
theorem nT (hR:Rel P ι B h w) (hp:ι id=some p) (hc:h.get id=some (.cells true c)) (hl:VRL ι cs vs)
 (h1:∀u∈vs,u.oneCell'=true) (hfit:off+cs.length<=c.length):
 ∃w',(storeCells ⟨p.b,p.o+off,none⟩ vs 0).run P w= .ok () w'/\Rel P ι B (h.put id (.cells true (c.take off++cs++c.drop (off+cs.length)))) w'/\Grow ι h w ι (h.put id (.cells true (c.take off++cs++c.drop (off+cs.length)))) w':=by
 obtain⟨cur,T,fz,k1,k2,k3,k4,k5⟩:=hR.cellsAt hp hc
 have hfz:=k2 rfl
 subst hfz
 have hlen:=hl.length
 have hrun:=run_storeCells_at P p.b (p.o+off) T vs 0 cur w k1 (by omega) h1
 simp only[ad7] at hrun
 refine⟨_,hrun, ?_⟩
 refine hR.turn hp (by rw[hc];simp) _ ?_ (setRow_size _ _ _) rfl rfl rfl (λb hb=>setRow_other w p.b b _ hb)
 refine⟨_,T,(0,0),setRow_heap w p.b cur _ T _ k1,λ_=>rfl, ?_, ?_, ?_⟩
 ·simp;omega
 ·simp;omega
 ·intro i v hi
  by_cases h2:i<off
  ·rw[ab1,List.getElem?_append_left (by simp;omega),List.getElem?_take,adF h2] at hi
   obtain⟨v',a,b,c'⟩:=k5 i v hi
   refine⟨v', ?_,b,c'⟩
   rw[←a,List.getElem?_toArray,ab1,List.getElem?_append_left (by simp;omega),List.getElem?_take,adF (by omega),Array.getElem?_toList]
  ·by_cases h3:i<off+cs.length
   ·rw[List.getElem?_append_left (by simp;omega),List.getElem?_append_right (by simp;omega)] at hi
    obtain⟨v',a,b⟩:=hl.get hi
    refine⟨v', ?_,b,h1 _ (List.mem_of_getElem? a)⟩
    rw[←a,List.getElem?_toArray,List.getElem?_append_left (by simp;omega),List.getElem?_append_right (by simp;omega)]
    congr 1
    simp;omega
   ·rw[List.getElem?_append_right (by simp;omega),List.getElem?_drop] at hi
    obtain⟨v',a,b,c'⟩:=k5 _ v hi
    refine⟨v', ?_,b,c'⟩
    rw[←a,List.getElem?_toArray,List.getElem?_append_right (by simp;omega),List.getElem?_drop,Array.getElem?_toList]
    congr 1
    simp;omega
theorem Dt  {n:Nat} {ya yx:NOpd} {xa xv:Value} (hT:b9 P T=some n) (ha:OV ι t ya xa) (hx:OV ι t yx xv) (hR:Rel P ι B h w):
 bJ P ι B h w (vL n ya yx t h) (EH ((Instr.storeAt T xa xv).run P w)):=
 bh λhr=>by
  obtain⟨a,h1,h2⟩:=aT rfl hr
  unfold vL at *
  rw[←h2];rw[←h2] at hr
  obtain⟨v,h3,h4⟩:=aT rfl hr
  rw[←h4];rw[←h4] at hr
  have hva:=ha a h1
  have hvx:=hx v h3
  cases hva with
  |ptr id off p hp=>
   dsimp only at hr ⊢
   obtain⟨cs,h5,h6⟩:=aR rfl hr
   rw[←h6];rw[←h6] at hr
   rw[bS] at hr ⊢
   obtain⟨h7,h8⟩:=aY rfl hr
   rw[←h8];rw[←h8] at hr
   unfold storeAt at hr ⊢
   obtain⟨c,h9,h10⟩:=fg rfl hr
   rw[←h10];rw[←h10] at hr
   obtain⟨c',h11,h12⟩:=aR rfl hr
   rw[←h12]
   rw[NH.set_eq]
   rw[ez] at h11
   split at h11
   ·rename_i hle
    cases h11
    have hc:=hvx.cells h5
    obtain⟨w',k1,k2,k3⟩:=nT hR hp h9 hc.1 hc.2 hle
    obtain⟨i,i1,i2⟩:=cF hT
    refine⟨undef,w',ι,.inr ⟨?_,rfl⟩,fO,k2,k3⟩
    have hsz:xv.cells.size=n:=by
     have:=hc.1.length
     have e:=adK h7
     simp at this;omega
    simp[EH,Instr.storeAt,Instr.sureAddr,storeVar,Go.sizeOf,typeInfo,i1,hsz,i2,k1]
   ·cases h11
  |_=>exact adD rfl hr
end
open Go
section
variable {P:Program} {ι:aZ} {B:Nat} {h:NH} {w:World} {t:Tm}
theorem pS  (hx:OV ι t y x):
 bJ P ι B h w (kU y t h) ((match (generalizing:=false) x with
 | .pointer none| .nilIface| .nilFunc=>runtimePanic .nilDeref
 | .func (.method name) first captured=>
  match (first[0]? :Option Value) with
  |some .nilIface=>runtimePanic .nilDeref
  |some (.iface t w)=>do
   if (←nilAhead ((←program).types.size+Made.depth) t w name) !=some false then
    unsupported (.noEntry "op/nilCheck.the method's receiver behind this interface value is a nil pointer, or cannot be seen to be none, and the arguments act or may panic (ledger 612)")
   pure (.value (.func (.method name) first captured))
  |_=>pure (.value (.func (.method name) first captured))
 |x=>pure (.value x):Sem Next).run P w):=
 bh λhr=>by
  obtain⟨v,h1,h2⟩:=aT rfl hr
  unfold kU at *
  rw[←h2];rw[←h2] at hr
  have hv:=hx v h1
  cases hv with
  |ptr id off p hp=>exact⟨_,rfl,.ptr _ _ _ hp⟩
  |fn f c c' hc=>exact⟨_,rfl,.fn _ _ _ hc⟩
  |yld l p hp=>exact⟨_,rfl,.yld _ _ hp⟩
  |_=>exact adD rfl hr
theorem NS  {k':IntKind} {a b:Int} (h:bH .num op (.int k (.lit a)) (.int k' (.lit b))=some v) (T:Nat) (w:World):
 ∃v',VR ι v v'/\(binOp op T (.int k a) (.int k' b)).run P w= .ok v' w:=by
 have h':cond (fB op) (iK op k a b) (cond (EF k k') (iK op k a b) none)=some v:=h
 have key:iK op k a b=some v/\(fB op=true∨k=k'):=by
  cases hs:fB op with
  |true=>rw[hs] at h';exact⟨h',.inl rfl⟩
  |false=>
   rw[hs] at h'
   cases he:EF k k' with
   |true=>rw[he] at h';exact⟨h',.inr (vJ he)⟩
   |false=>rw[he] at h';cases h'
 rcases oJ (P:=P) key.1 with⟨r,rfl,hr⟩|⟨c,rfl,hr⟩
 ·exact⟨_,.int _ _,hr T k' w key.2⟩
 ·exact⟨_,.bool _,hr T k' w key.2⟩
theorem qJ (a b:List Nat):JM a b=(a==b):=by
 induction a generalizing b with
 |nil=>cases b<;>rfl
 |cons x a ih=>cases b with
  |nil=>rfl
  |cons y b=>
   have e:JM (x::a) (y::b)=cond (Nat.beq x y) (JM a b) false:=rfl
   rw[e,ih]
   cases hxy:Nat.beq x y with
   |true=>have:=adK hxy;subst this;simp
   |false=>have:=ad3 hxy;simp[this]
theorem Va (a b:List UInt8):UD (a.map UInt8.toNat) (b.map UInt8.toNat)=Op.bytesLess a b:=by
 induction a generalizing b with
 |nil=>cases b<;>rfl
 |cons x a ih=>cases b with
  |nil=>rfl
  |cons y b=>
   have e:UD ((x::a).map UInt8.toNat) ((y::b).map UInt8.toNat)=cond (Nat.ble (Nat.succ x.toNat) y.toNat) true (cond (Nat.beq x.toNat y.toNat) (UD (a.map UInt8.toNat) (b.map UInt8.toNat)) false):=rfl
   rw[e,ih,bO]
   have h1:Op.bytesLess (x::a) (y::b)=(decide (x<y)||(x==y&&Op.bytesLess a b)):=rfl
   rw[h1]
   by_cases hlt:x<y
   ·have:Nat.succ x.toNat<=y.toNat:=UInt8.lt_iff_toNat_lt.1 hlt
    simp[hlt,this]
   ·have hn:¬Nat.succ x.toNat<=y.toNat:=λhh=>hlt (UInt8.lt_iff_toNat_lt.2 hh)
    simp only[hlt,hn,decide_false,cond_false,Bool.false_or]
    cases hxy:Nat.beq x.toNat y.toNat with
    |true=>
     have:=adK hxy
     have e:x=y:=UInt8.toNat_inj.1 this
     simp[e]
    |false=>
     have:=ad3 hxy
     have e:x≠y:=λe=>this (by rw[e])
     simp[e]
theorem sB {a b:List UInt8} (h:a.map UInt8.toNat=b.map UInt8.toNat):a=b:=by
 induction a generalizing b with
 |nil=>cases b<;>simp at h ⊢
 |cons x a ih=>cases b with
  |nil=>simp at h
  |cons y b=>simp at h;rw[UInt8.toNat_inj.1 h.1,ih h.2]
theorem Oa {a b:ByteArray}:(a.data.toList.map UInt8.toNat==b.data.toList.map UInt8.toNat)=(a.toList==b.toList):=by
 rw[ByteArray.toList_eq,ByteArray.toList_eq,ad5]
 simp only[beq_iff_eq]
 exact⟨sB,λe=>by rw[e]⟩
theorem cp (s:ByteArray):s.data.toList.length=s.size:=by cases s;rfl
theorem BB  {s u:ByteArray} (h:LG op (s.data.toList.map UInt8.toNat) (u.data.toList.map UInt8.toNat)=some v) (T:Nat) (w:World):
 ∃v',VR ι v v'/\(binOp op T (.string s) (.string u)).run P w= .ok v' w:=by
 have hlt:∀a b:ByteArray,UD (a.data.toList.map UInt8.toNat) (b.data.toList.map UInt8.toNat)=Op.bytesLess a.toList b.toList:=λa b=>by
  rw[Va,ByteArray.toList_eq,ByteArray.toList_eq]
 have total:∀a b:List UInt8,(!Op.bytesLess b a)=(Op.bytesLess a b||a==b):=by
  intro a
  induction a with
  |nil=>intro b;cases b<;>simp[Op.bytesLess]
  |cons x a ih=>
   intro b
   cases b with
   |nil=>simp[Op.bytesLess]
   |cons y b=>
    simp only[Op.bytesLess,Bool.not_or,Bool.not_and]
    have hb:=ih b
    by_cases h1:x<y
    ·have h2:¬y<x:=λh2=>by rw[UInt8.lt_iff_toNat_lt] at h1 h2;omega
     have h3:¬y=x:=λh3=>by rw[UInt8.lt_iff_toNat_lt,h3] at h1;omega
     simp[h1,h2,h3]
    ·by_cases h3:x=y
     ·subst h3;simp[h1,hb]
     ·have h2:y<x:=by
       rw[UInt8.lt_iff_toNat_lt] at h1 ⊢
       have:x.toNat≠y.toNat:=λe=>h3 (UInt8.toNat_inj.1 e)
       omega
      simp[h1,h2,h3]
 unfold LG at h
 split at h
 ·rw[eP,bS,bO] at h
  by_cases hsz:(s.data.toList.map UInt8.toNat++u.data.toList.map UInt8.toNat).length<=1099511627776
  case neg=>rw[adG hsz] at h;cases h
  rw[adH hsz] at h
  cases h
  rw[aa5,aa0,aa0,cp,cp] at hsz
  refine⟨.string (s++u),.str _ _ (by simp only[ByteArray.data_append,Array.toList_append,ab5]), ?_⟩
  have hmx:IntKind.i64.max=9223372036854775807:=rfl
  simp only[binOp,Op.stringOp,hmx]
  rw[adE (by omega)]
  rfl
 ·rw[bn,qJ,Oa] at h;cases h;exact⟨_,.bool _,by simp[binOp,Op.stringOp]⟩
 ·rw[bn,qJ,Oa,im] at h;cases h;exact⟨_,.bool _,by simp[binOp,Op.stringOp]⟩
 ·rw[bn,hlt] at h;cases h;exact⟨_,.bool _,by simp[binOp,Op.stringOp]⟩
 ·rw[bn,hlt,im,total] at h;cases h;exact⟨_,.bool _,by simp[binOp,Op.stringOp]⟩
 ·rw[bn,hlt] at h;cases h
  refine⟨_,.bool _, ?_⟩
  have e:Op.bytesLess u.toList s.toList= !(Op.bytesLess s.toList u.toList||s.toList==u.toList):=by rw[←total];simp
  rw[e];simp[binOp,Op.stringOp]
 ·rw[bn,hlt,im] at h;cases h;exact⟨_,.bool _,by simp[binOp,Op.stringOp]⟩
 ·cases h
theorem pP  {r:Bool} (h:eZ op r=some v):(op= .eql/\v= .bool r)∨(op= .neq/\v= .bool !r):=by
 unfold eZ at h
 split at h
 ·rw[bn] at h;cases h;exact .inl ⟨rfl,rfl⟩
 ·rw[bn,im] at h;cases h;exact .inr ⟨rfl,rfl⟩
 ·cases h
def BC.of (c:BC) (d:TypeDesc):Prop:=
 match c with
 | .num=>True
 | .bool=>d= .bool
 | .ptr=>∃e,d= .pointer e
 | .slc=>∃e,d= .slice e
 | .map=>∃k e,d= .map k e
 | .fn=>∃a b c,d= .func a b c
 | .ifc| .ifc2 _=>∃m,d= .interface m
theorem bX  {r:Bool} (hb:eZ op r=some v) {y:Value}
 (h1:binOp .eql T x y=(do pure (.bool (←Op.equal T x y)))) (h2:binOp .neq T x y=(do pure (.bool (!(←Op.equal T x y)))))
 (he:∀d,(Op.equalIn (d+1) T x y).run P w= .ok r w):∃v',VR ι v v'/\(binOp op T x y).run P w= .ok v' w:=by
 have he':(Op.equal T x y).run P w= .ok r w:=he 9999
 rcases pP hb with⟨rfl,rfl⟩|⟨rfl,rfl⟩
 ·exact⟨_,.bool _,by rw[h1];simp[he']⟩
 ·exact⟨_,.bool _,by rw[h2];simp[he']⟩
theorem Nr {t:Nat}:∀{l:List Nat},I4 t l=true->t∈l:=by
 intro l
 induction l with
 |nil=>intro h;cases h
 |cons u l ih=>
  intro h
  have h':cond (Nat.beq t u) true (I4 t l)=true:=h
  cases hb:Nat.beq t u with
  |true=>rw[adK hb];exact ab2
  |false=>rw[hb] at h';exact aa8 _ (ih h')
def xj (P:Program) (ts:List Nat):Prop:=∀t∈ts,jo P t=true
theorem FS {t:Nat} (h:jo P t=true):∃i k,P.info? t=some i/\P.underlying t=some (.int k)/\i.comparable=true:=by
 unfold jo at h
 split at h
 ·rename_i i k hi hu;exact⟨i,k,hi,hu,h⟩
 ·cases h
theorem xA (P:Program):xj P (rC P):=by
 unfold rC
 induction P.types.size with
 |zero=>intro t ht;cases ht
 |succ n ih=>
  intro t ht
  have e:(Nat.rec [] (λt r=>cond (jo P t) (aG t λt=>t::r) r) (n+1):List Nat)=cond (jo P n) (aG n λt=>t::(Nat.rec [] (λt r=>cond (jo P t) (aG t λt=>t::r) r) n:List Nat)) (Nat.rec [] (λt r=>cond (jo P t) (aG t λt=>t::r) r) n:List Nat):=rfl
  rw[e,aj] at ht
  cases hb:jo P n with
  |true=>
   rw[hb] at ht
   rcases aa1.1 ht with h|h
   ·rw[h];exact hb
   ·exact ih t h
  |false=>rw[hb] at ht;exact ih t ht
theorem KZ {ts:List Nat} (hts:xj P ts) {t u:Nat} {m:Array (String×TypeId)} {j:IntKind} {a b:Int} (hT:P.underlying T=some (.interface m))
 (h:cond (Nat.beq t u) (cond (I4 t ts) (cond (EF k j) (eZ op (ww a b)) none) none) (eZ op false)=some v) (w:World):
 ∃v',VR ι v v'/\(binOp op T (.iface t (.int k a)) (.iface u (.int j b))).run P w= .ok v' w:=by
 cases htu:Nat.beq t u with
 |false=>
  rw[htu] at h
  have hne:=ad3 htu
  exact bX h rfl rfl λd=>by simp[Op.equalIn,run_underlying hT,hne]
 |true=>
  rw[htu] at h
  obtain rfl:=adK htu
  simp only[cond_true] at h
  cases hm:I4 t ts with
  |false=>rw[hm] at h;cases h
  |true=>
   rw[hm] at h
   simp only[cond_true] at h
   cases hk:EF k j with
   |false=>rw[hk] at h;cases h
   |true=>
    rw[hk] at h
    simp only[cond_true] at h
    have hkj:=vJ hk
    subst hkj
    obtain⟨i,k',hi,hu,hc⟩:=FS (hts t (Nr hm))
    have he:∀d,(Op.equalIn (d+1) t (.int k a) (.int k b)).run P w= .ok (ww a b) w:=λd=>by
     rw[iw]
     simp[Op.equalIn,run_underlying hu]
    have he2:∀d,(Op.equalIn (d+1+1) T (.iface t (.int k a)) (.iface t (.int k b))).run P w= .ok (ww a b) w:=λd=>by
     have:=he d
     simp[Op.equalIn,run_underlying hT,typeInfo,hi,hc,run_underlying hu,iw]
    have he':(Op.equal T (.iface t (.int k a)) (.iface t (.int k b))).run P w= .ok (ww a b) w:=he2 9998
    rcases pP h with⟨rfl,rfl⟩|⟨rfl,rfl⟩
    ·exact⟨_,.bool _,by show (do pure (Value.bool (←Op.equal T (.iface t (.int k a)) (.iface t (.int k b)))):Sem Value).run P w=_;simp[he']⟩
    ·exact⟨_,.bool _,by show (do pure (Value.bool (!(←Op.equal T (.iface t (.int k a)) (.iface t (.int k b))))):Sem Value).run P w=_;simp[he']⟩
theorem Gj {c:BC} {x y:NV} (hb:bH c op x y=some v) (hT:P.underlying T=some d) (hc:c.of d) (h2:∀ts,c= .ifc2 ts->xj P ts) {x' y':Value} (hx:VR ι x x') (hy:VR ι y y') (w:World):
 ∃v',VR ι v v'/\(binOp op T x' y').run P w= .ok v' w:=by
 cases c with
 |num=>
  cases hx with
  |int k a=>
   cases hy with
   |int k' b=>exact NS hb T w
   |_=>cases hb
  |str l s hs=>
   cases hy with
   |str m u hu=>subst hs;subst hu;exact BB hb T w
   |_=>cases hb
  |_=>cases hb
 |bool=>
  obtain rfl:=hc
  cases hx with
  |bool a=>
   cases hy with
   |bool b=>
    have hb':eZ op (jf a b)=some v:=hb
    rw[nH] at hb'
    rcases pP hb' with⟨rfl,rfl⟩|⟨rfl,rfl⟩
    ·exact⟨_,.bool _,run_eql_bool w T a b hT⟩
    ·exact⟨_,.bool _,run_neq_bool w T a b hT⟩
   |_=>cases hb
  |_=>cases hb
 |ptr=>
  obtain⟨e,rfl⟩:=hc
  cases hx with
  |nilp=>
   cases hy with
   |nilp=>exact bX hb rfl rfl λd=>by simp[Op.equalIn,run_underlying hT]
   |ptr=>exact bX hb rfl rfl λd=>by simp[Op.equalIn,run_underlying hT]
   |_=>cases hb
  |ptr=>
   cases hy with
   |nilp=>exact bX hb rfl rfl λd=>by simp[Op.equalIn,run_underlying hT]
   |_=>cases hb
  |_=>cases hb
 |slc=>
  obtain⟨e,rfl⟩:=hc
  cases hx with
  |nils=>
   cases hy with
   |nils=>exact bX hb rfl rfl λd=>by simp[Op.equalIn,run_underlying hT]
   |slc=>exact bX hb rfl rfl λd=>by simp[Op.equalIn,run_underlying hT]
   |_=>cases hb
  |slc=>
   cases hy with
   |nils=>exact bX hb rfl rfl λd=>by simp[Op.equalIn,run_underlying hT]
   |_=>cases hb
  |_=>cases hb
 |map=>
  obtain⟨k,e,rfl⟩:=hc
  cases hx with
  |nilm=>
   cases hy with
   |nilm=>exact bX hb rfl rfl λd=>by simp[Op.equalIn,run_underlying hT]
   |map=>exact bX hb rfl rfl λd=>by simp[Op.equalIn,run_underlying hT]
   |_=>cases hb
  |map=>
   cases hy with
   |nilm=>exact bX hb rfl rfl λd=>by simp[Op.equalIn,run_underlying hT]
   |_=>cases hb
  |_=>cases hb
 |fn=>
  obtain⟨k,e,g,rfl⟩:=hc
  cases hx with
  |nilf=>
   cases hy with
   |nilf=>exact bX hb rfl rfl λd=>by simp[Op.equalIn,run_underlying hT]
   |fn=>exact bX hb rfl rfl λd=>by simp[Op.equalIn,run_underlying hT]
   |_=>cases hb
  |fn=>
   cases hy with
   |nilf=>exact bX hb rfl rfl λd=>by simp[Op.equalIn,run_underlying hT]
   |_=>cases hb
  |_=>cases hb
 |ifc2 ts=>
  obtain⟨m,rfl⟩:=hc
  have hb':OW none (λt k a=>OW none (λu j b=>cond (Nat.beq t u) (cond (I4 t ts) (cond (EF k j) (eZ op (ww a b)) none) none) (eZ op false)) y) x=some v:=hb
  unfold OW at hb'
  split at hb'
  ·rename_i t k a
   split at hb'
   ·rename_i u j b
    cases hx with
    |ifc _ _ vx hx=>cases hx with
     |int=>
      cases hy with
      |ifc _ _ vy hy=>cases hy with
       |int=>
        exact KZ (h2 _ rfl) hT hb' w
   ·cases hb'
  ·cases hb'
 |ifc=>
  obtain⟨m,rfl⟩:=hc
  cases hx with
  |nili=>
   cases hy with
   |nili=>exact bX hb rfl rfl λd=>by simp[Op.equalIn,run_underlying hT]
   |ifc=>exact bX hb rfl rfl λd=>by simp[Op.equalIn,run_underlying hT]
   |_=>cases hb
  |ifc=>
   cases hy with
   |nili=>exact bX hb rfl rfl λd=>by simp[Op.equalIn,run_underlying hT]
   |_=>cases hb
  |_=>cases hb
theorem Gf  (hop:op= .eql∨op= .neq) (T:Nat) (a b:Operand) (x y:Value):
 eqGuard op T a b x y=(match x,y with
 | .nilIface,.nilIface=>do
  if (match a with| .const _=>true|_=>false)||(match b with| .const _=>true|_=>false) then return
  if ←Op.eqGuardIn Op.maxDepth T x y then unsupported (.noEntry "binop/eql: two nil values of an interface type with methods, neither of them the literal nil")
 | .agg _,.agg _=>do
  if !(←program).eqGuardType (←program).depth T then return
  if ←Op.eqGuardIn Op.maxDepth T x y then unsupported (.noEntry "binop/eql: two nil values of an interface type with methods, in a part of a struct or an array")
 |_,_=>pure ()):=by
 rcases hop with rfl|rfl<;>rfl
theorem EU  {a b:Operand} {y:Value} (hx:∀l,x≠.agg l) (hn:x= .nilIface->y= .nilIface->cY a=true∨cY b=true) (w:World):
 (eqGuard op T a b x y).run P w= .ok () w:=by
 by_cases hop:op= .eql∨op= .neq
 ·rw[Gf hop]
  split
  ·have:=hn rfl rfl
   rcases this with h|h
   ·cases a<;>first|rfl|cases h
   ·cases b<;>first|(cases a<;>rfl)|cases h
  ·exact adD rfl (hx _)
  ·rfl
 ·cases op<;>first|rfl|exact adD (by simp) hop
theorem nq {c:BC} {yx yy:NOpd} {xx xy:Value} {a b:Operand} (hT:P.underlying T=some d) (hc:c.of d) (hx:OV ι t yx xx) (hy:OV ι t yy xy)
 (hi:c= .ifc->cY a=true∨cY b=true) (h2':∀ts,c= .ifc2 ts->xj P ts):
 bJ P ι B h w (OI c op yx yy t h) (a9 ((do eqGuard op T a b xx xy;binOp op T xx xy:Sem Value).run P w)):=
 bh λhr=>by
  obtain⟨u,h1,h2⟩:=aT rfl hr
  unfold OI at *
  rw[←h2];rw[←h2] at hr
  obtain⟨v,h3,h4⟩:=aT rfl hr
  rw[←h4];rw[←h4] at hr
  obtain⟨r,h5,h6⟩:=Ln rfl hr
  rw[h6]
  have hu:=hx u h1
  have hv:=hy v h3
  obtain⟨v',k1,k2⟩:=Gj h5 hT hc h2' hu hv w
  refine⟨v', ?_,k1⟩
  have hg:(eqGuard op T a b xx xy).run P w= .ok () w:=by
   refine EU ?_ ?_ w
   ·rintro l rfl
    cases hu with
    |agg=>cases c<;>cases h5
   ·rintro rfl rfl
    cases hu;cases hv
    cases c<;>first|(cases h5;done)|exact hi rfl
  simp[a9,hg,k2]
end
open Go
section
variable {P:Program} {ι:aZ} {B:Nat} {h:NH} {w:World} {t:Tm}
theorem Js  {cs:Array Value} {v:Value} (ha:(isAgg T).run P w= .ok false w) (hv:cs[off]? =some v):(part T cs off).run P w= .ok v w:=by
 simp[part,ha,hv]
theorem KC {op:UnOp} (hx:OV ι t y x):bJ P ι B h w (U9 op y t h) (a9 ((Op.unary op x).run P w)):=
 bh λhr=>by
  obtain⟨v,h1,h2⟩:=aT rfl hr
  unfold U9 at *
  rw[←h2];rw[←h2] at hr
  obtain⟨r,h3,h4⟩:=Ln rfl hr
  rw[h4]
  have hv:=hx v h1
  unfold unV at h3
  split at h3
  ·cases hv;rw[bn,im] at h3;cases h3;exact⟨_,rfl,.bool _⟩
  ·cases hv;rw[bc,cN,lW] at h3;cases h3;exact⟨_,rfl,.int _ _⟩
  ·cases hv
   rename_i k n
   rcases oJ (P:=P) h3 with⟨q,rfl,hq⟩|⟨c,rfl,hq⟩
   ·have:=hq 0 k w (.inr rfl)
    refine⟨_, ?_,.int _ q⟩
    have e:(Op.unary .xor (.int k n)).run P w=(binOp .xor 0 (.int k (if k.signed=true then -1 else k.max)) (.int k n)).run P w:=by simp[Op.unary,binOp]
    rw[e,this];rfl
   ·have:=hq 0 k w (.inr rfl)
    have e:(Op.unary .xor (.int k n)).run P w=(binOp .xor 0 (.int k (if k.signed=true then -1 else k.max)) (.int k n)).run P w:=by simp[Op.unary,binOp]
    exact⟨_,by rw[e,this];rfl,.bool c⟩
  ·cases h3
theorem Cp  {dst:Nat} {k0:IntKind} (hs:P.underlying src=some (.int k0)) (hd:P.underlying dst=some (.int k)) (hx:OV ι t y x):
 bJ P ι B h w (vm k y t h) (a9 ((convert src dst x).run P w)):=
 bh λhr=>by
  obtain⟨v,h1,h2⟩:=aT rfl hr
  unfold vm at *
  rw[←h2];rw[←h2] at hr
  have hv:=hx v h1
  cases hv with
  |int k' n=>
   dsimp only at hr ⊢
   rw[bc,cN]
   refine⟨_, ?_,.int _ _⟩
   simp[a9,convert,run_underlying hs,run_underlying hd,Conv.intToInt]
  |_=>exact adD rfl hr
end
open Go
section
variable {P:Program} {ι:aZ} {B:Nat} {h:NH} {w:World} {t:Tm}
theorem CZ  (hT:P.underlying T=some d) (hn:∀m,d≠.interface m) (hTT:T'=T) (hx:OV ι t y x):bJ P ι B h w (vV T' y t h) (a9 ((Instr.makeInterface T x).run P w)):=
 bh λhr=>by
  obtain⟨v,h1,h2⟩:=aT rfl hr
  unfold vV at *
  rw[←h2]
  subst hTT
  refine⟨_, ?_,.ifc _ _ _ (hx v h1)⟩
  have e:(Instr.makeInterface T' x).run P w= .ok (.iface T' x) w:=by
   unfold Instr.makeInterface
   rw[Sem.run_bind,run_underlying hT]
   cases d<;>first|rfl|exact adD rfl (hn _)
  rw[e];rfl
theorem uK {l:List NOpd} (e:Fz t l .fail K=r) (hr:r≠.fail):∃vs,(∀xs:List Value,xs.length=l.length->(∀(i:Nat) (y:NOpd) (x:Value),l[i]? =some y->xs[i]? =some x->OV ι t y x)->VRL ι vs xs)/\K vs=r:=by
 induction l generalizing K with
 |nil=>exact⟨[],λxs hl _=>by cases xs with|nil=>exact .nil|cons=>simp at hl,e⟩
 |cons y l ih=>
  have e':(Option.rec NR.fail (λv=>Fz t l .fail λl=>K (v::l)) (ρ t y):NR)=r:=e
  cases hy:ρ t y with
  |none=>rw[hy] at e';exact adD e'.symm hr
  |some v=>
   rw[hy] at e'
   obtain⟨vs,h1,h2⟩:=ih e'
   refine⟨v::vs,λxs hl hx=> ?_,h2⟩
   cases xs with
   |nil=>simp at hl
   |cons x xs=>
    exact .cons _ _ _ _ (hx 0 y x rfl rfl v hy) (h1 xs (by simpa using hl) λi y x a b=>hx (i+1) y x (by simpa using a) (by simpa using b))
def VC (ι:aZ) (t:Tm) (l:List NOpd) (xs:List Value):Prop:=xs.length=l.length/\∀(i:Nat) (y:NOpd) (x:Value),l[i]? =some y->xs[i]? =some x->OV ι t y x
theorem EV  {l:List NOpd} (hx:VC ι t l xs):bJ P ι B h w (Fq f l t h) (a9 ((Instr.makeFunc (.func f) #[] xs.toArray).run P w)):=
 bh λhr=>by
  unfold Fq at *
  obtain⟨vs,h1,h2⟩:=uK (ι:=ι) rfl hr
  rw[←h2]
  exact⟨_,rfl,.fn _ _ _ (h1 xs hx.1 hx.2)⟩
theorem pe  {s:Nat} (hs:P.underlying s=some (.struct fs)) (hf:fs[f]? =some fd) {i:TypeInfo} (hi:P.info? fd.type=some i) (h0:i.size≠0) (ho:o=fd.offset) (hx:OV ι t y x):
 bJ P ι B h w (jD o y t h) (a9 ((Instr.fieldAt s x f).run P w)):=
 bh λhr=>by
  obtain⟨v,h1,h2⟩:=aT rfl hr
  unfold jD at *
  rw[←h2];rw[←h2] at hr
  have hv:=hx v h1
  cases hv with
  |ptr id off p hp=>
   dsimp only at hr ⊢
   rw[aj]
   subst ho
   refine⟨_, ?_,.ptr _ _ _ hp⟩
   simp only[a9,Instr.fieldAt,Sem.run_bind,run_underlying hs,Result.andThen_ok,hf,Instr.sureAddr,Sem.run_pure,fieldPlace,Go.sizeOf,typeInfo,run_program,hi]
   rw[adE h0]
   simp only[Sem.run_pure,Result.andThen_ok,Addr.add_mid]
   rw[Nat.add_assoc]
   rfl
  |_=>exact adD rfl hr
theorem uB  {s:Nat} (hs:P.underlying s=some (.struct fs)) (hf:fs[f]? =some fd) (hT:nR P fd.type=some none) (ho:o=fd.offset) (hx:OV ι t y x):
 bJ P ι B h w (qr o y t h) (a9 ((Instr.field s x f).run P w)):=
 bh λhr=>by
  obtain⟨v,h1,h2⟩:=aT rfl hr
  unfold qr at *
  rw[←h2];rw[←h2] at hr
  have hv:=hx v h1
  cases hv with
  |agg l l' hl hl1=>
   dsimp only at hr ⊢
   obtain⟨u,h3,h4⟩:=aR rfl hr
   rw[←h4]
   rw[fH] at h3
   obtain⟨u',k1,k2⟩:=hl.get h3
   subst ho
   obtain⟨d,i,a1,a2,a3,_⟩:=lU hT
   refine⟨u', ?_,k2⟩
   have hp:=Js (P:=P) (w:=w) (T:=fd.type) (cs:=l'.toArray) (off:=fd.offset) (v:=u') (by rw[mU a1,a3]) (by simpa using k1)
   simp[a9,Instr.field,run_underlying hs,hf,asAgg,hp]
  |_=>exact adD rfl hr
theorem vq  {s n:Nat} (hs:P.underlying s=some (.struct fs)) (hf:fs[f]? =some fd) (hT:nR P fd.type=some (some n)) (ho:o=fd.offset) (hx:OV ι t y x):
 bJ P ι B h w (qR o n y t h) (a9 ((Instr.field s x f).run P w)):=
 bh λhr=>by
  obtain⟨v,h1,h2⟩:=aT rfl hr
  unfold qR at *
  rw[←h2];rw[←h2] at hr
  have hv:=hx v h1
  cases hv with
  |agg l l' hl hl1=>
   dsimp only at hr ⊢
   obtain⟨u,h3,h4⟩:=aR rfl hr
   rw[←h4]
   rw[iS] at h3
   split at h3
   ·rename_i hle
    cases h3
    subst ho
    obtain⟨d,i,a1,a2,a3,a4⟩:=lU hT
    refine⟨_, ?_,VR.agg _ _ ((hl.drop _).take _) λv hv=>hl1 v (List.mem_of_mem_drop (af5 hv))⟩
    have e:(part fd.type l'.toArray fd.offset).run P w= .ok (.agg ((l'.drop fd.offset).take n).toArray) w:=by
     simp only[part,Sem.run_bind,mU a1,a3,Result.andThen_ok,if_true,Go.sizeOf,typeInfo,run_program,a2,Sem.run_pure,a4]
     congr 2
     apply Array.ext'
     simp[List.take_drop]
    simp[a9,Instr.field,run_underlying hs,hf,asAgg,e]
   ·cases h3
  |_=>exact adD rfl hr
theorem sf  {n:Nat} (hT:P.underlying T=some (.slice e)) (hn:b9 P e=some n) {z:NOpd} {i:Value} (hx:OV ι t y x) (hi:OV ι t z i):
 bJ P ι B h w (lr n y z t h) (a9 ((Instr.indexAt T x i).run P w)):=
 bh λhr=>by
  obtain⟨v,h1,h2⟩:=aT rfl hr
  unfold lr at *
  rw[←h2];rw[←h2] at hr
  obtain⟨k,j,h3,h4⟩:=ee rfl hr
  rw[←h4];rw[←h4] at hr
  have hv:=hx v h1
  have hj:=hi _ h3
  cases hj with
  |int _ _=>
  cases hv with
  |slc id off len es kc p a cap hp hl hk hm he ha=>
   dsimp only at hr ⊢
   obtain⟨h5,h6⟩:=aY rfl hr
   rw[←h6,aj]
   rw[bO] at h5
   have hlt:j<len:=by have:=of_decide_eq_true h5;omega
   obtain⟨i,i1,i2⟩:=cF hn
   refine⟨_, ?_,.ptr _ _ _ hp⟩
   obtain⟨ha1,ha2⟩:=ha (by omega)
   subst ha1
   have hjl:¬len<=j:=by omega
   simp[a9,Instr.indexAt,asIntOf,run_underlying hT,hjl,Go.sizeOf,typeInfo,i1,i2,Addr.add_mid,Nat.add_assoc]
  |_=>exact adD rfl hr
theorem qQ  (hT:P.underlying T=some .string) {z:NOpd} {i:Value} (hx:OV ι t y x) (hi:OV ι t z i):
 bJ P ι B h w (lx y z t h) (a9 ((Instr.index T x i).run P w)):=
 bh λhr=>by
  obtain⟨v,h1,h2⟩:=aT rfl hr
  unfold lx at *
  rw[←h2];rw[←h2] at hr
  obtain⟨k,j,h3,h4⟩:=ee rfl hr
  rw[←h4];rw[←h4] at hr
  have hv:=hx v h1
  have hj:=hi _ h3
  cases hj with
  |int _ _=>
  cases hv with
  |str l s hs=>
   dsimp only at hr ⊢
   obtain⟨b,h5,h6⟩:=aR rfl hr
   rw[←h6]
   rw[fH] at h5
   subst hs
   rw[List.getElem?_map] at h5
   cases hb:s.data.toList[j]? with
   |none=>rw[hb] at h5;cases h5
   |some u=>
    rw[hb] at h5;cases h5
    refine⟨_, ?_,.int _ _⟩
    have hlt:j<s.size:=by rw[←cp];exact (List.getElem?_eq_some_iff.1 hb).1
    have hg:s[j]? =some u:=by
     rw[ByteArray.getElem?_lt' s j hlt]
     have:=(List.getElem?_eq_some_iff.1 hb).2
     rw[←this];rfl
    simp[a9,Instr.index,asIntOf,run_underlying hT,hg]
  |_=>exact adD rfl hr
theorem sx  {i':Nat} (hii:i'=i) (hx:OV ι t y x):bJ P ι B h w (mP y i' t h) (a9 ((Instr.extract x i).run P w)):=
 bh λhr=>by
  obtain⟨v,h1,h2⟩:=aT rfl hr
  unfold mP at *
  rw[←h2];rw[←h2] at hr
  have hv:=hx v h1
  subst hii
  cases hv with
  |tup l l' hl=>
   dsimp only at hr ⊢
   obtain⟨u,h3,h4⟩:=aR rfl hr
   rw[←h4]
   rw[fH] at h3
   obtain⟨u',k1,k2⟩:=hl.get h3
   exact⟨u',by simp[a9,Instr.extract,k1],k2⟩
  |_=>exact adD rfl hr
theorem vd  (hT:P.underlying T=some .string) {T':TypeId} (hx:OV ι t y x):bJ P ι B h w (qc y t h) (a9 ((Builtin.len_ #[T] T' #[x]).run P w)):=
 bh λhr=>by
  obtain⟨v,h1,h2⟩:=aT rfl hr
  unfold qc at *
  rw[←h2];rw[←h2] at hr
  have hv:=hx v h1
  cases hv with
  |str l s hs=>
   dsimp only
   rw[bS]
   refine⟨_, ?_,.int _ _⟩
   subst hs
   simp[a9,Builtin.len_,run_underlying hT,goInt]
  |_=>exact adD rfl hr
theorem wd  (hT:P.underlying T=some (.slice e)) {T':TypeId} (hx:OV ι t y x):bJ P ι B h w (qi y t h) (a9 ((Builtin.len_ #[T] T' #[x]).run P w)):=
 bh λhr=>by
  obtain⟨v,h1,h2⟩:=aT rfl hr
  unfold qi at *
  rw[←h2];rw[←h2] at hr
  have hv:=hx v h1
  cases hv with
  |slc=>exact⟨_,by simp[a9,Builtin.len_,run_underlying hT,goInt],.int _ _⟩
  |nils=>exact⟨_,by simp[a9,Builtin.len_,run_underlying hT,goInt],.int _ _⟩
  |_=>exact adD rfl hr
theorem MR.length {l:List (NV×NV)} {es:List MapEntry} (hm:MR ι l es):l.length=es.length:=by
 induction l generalizing es with
 |nil=>cases es with|nil=>rfl|cons=>exact hm.elim
 |cons a l ih=>cases es with|nil=>exact hm.elim|cons e es=>simp[ih hm.2.2]
theorem Rel.mapAt (hR:Rel P ι B h w) (hp:ι id=some p) {l:List (NV×NV)} (hl:h.get id=some (.map l)):∃es clock,w.heap[p.b]? =some (.map es clock)/\MR ι l es.toList/\MapKept.Stamped es clock:=by
 obtain⟨o,h1,h2⟩:=hR.obj id p hp
 rw[hl] at h1;cases h1
 exact h2
theorem rb {r:Nat} {o:Obj} (hb:w.heap[r]? =some o) (hn:∀c e f,o≠.cells c e f):(getObj r).run P w= .ok o w:=by
 unfold getObj
 rw[Sem.run,hb]
 cases o<;>first|rfl|exact adD rfl (hn _ _ _)
end
open Go
section
variable {P:Program} {ι:aZ} {B:Nat} {h:NH} {w:World} {t:Tm}
theorem Gz  {a b:NV} (hv:IF mx a b=some v) {y:Value} (hx:VR ι a x) (hy:VR ι b y) (w:World):
 ∃v',VR ι v v'/\((if mx then Builtin.max2 x y else Builtin.min2 x y).run P w)= .ok v' w:=by
 cases hx with
 |int k a=>
  cases hy with
  |int k' b=>
   have hv':cond (cond mx (El a b) (El b a)) (some (NV.int k (.lit b))) (some (.int k (.lit a)))=some v:=hv
   rw[jj,jj] at hv'
   cases mx with
   |true=>
    simp only[cond_true] at hv'
    by_cases hc:a<b
    ·rw[adH hc] at hv';cases hv';exact⟨_,.int _ _,by simp[Builtin.max2,hc]⟩
    ·rw[adG hc] at hv';cases hv';exact⟨_,.int _ _,by simp[Builtin.max2,hc]⟩
   |false=>
    simp only[cond_false] at hv'
    by_cases hc:b<a
    ·rw[adH hc] at hv';cases hv';exact⟨_,.int _ _,by simp[Builtin.min2,hc]⟩
    ·rw[adG hc] at hv';cases hv';exact⟨_,.int _ _,by simp[Builtin.min2,hc]⟩
  |_=>cases hv
 |_=>cases hv
theorem FU :∀(l:List NV) (a v:NV),(List.rec (motive:=λ_=>NV->Option NV) some (λy _ ih a=>Option.rec none ih (IF mx a y)) l a:Option NV)=some v->∀(xs:List Value) (x:Value),VRL ι l xs->VR ι a x->∀w,
 ∃v',VR ι v v'/\((xs.foldlM (λa b=>if mx then Builtin.max2 a b else Builtin.min2 a b) x).run P w)= .ok v' w:=by
 intro l
 induction l with
 |nil=>intro a v hv xs x hxs hx w;cases hxs;cases hv;exact⟨x,hx,rfl⟩
 |cons b l ih=>
  intro a v hv xs x hxs hx w
  cases hxs with
  |cons _ y _ ys hy hys=>
   have hv':(Option.rec none (λc=>(List.rec (motive:=λ_=>NV->Option NV) some (λy _ ih a=>Option.rec none ih (IF mx a y)) l c:Option NV)) (IF mx a b):Option NV)=some v:=hv
   cases hm:IF mx a b with
   |none=>rw[hm] at hv';cases hv'
   |some c=>
    rw[hm] at hv'
    obtain⟨c',k1,k2⟩:=Gz (P:=P) hm hx hy w
    obtain⟨v',m1,m2⟩:=ih c v hv' ys c' hys k1 w
    exact⟨v',m1,by simp only[List.foldlM_cons,Sem.run_bind,k2,Result.andThen_ok,m2]⟩
theorem mE  {l:List NOpd} (hx:VC ι t l xs) (ts:Array TypeId) (T:TypeId):
 bJ P ι B h w (qU mx l t h) (a9 ((if mx then Builtin.max_ ts T xs.toArray else Builtin.min_ ts T xs.toArray).run P w)):=
 bh λhr=>by
  unfold qU at *
  obtain⟨vs,h1,h2⟩:=uK (ι:=ι) rfl hr
  rw[←h2];rw[←h2] at hr
  obtain⟨v,h3,h4⟩:=aR rfl hr
  rw[←h4]
  have hvs:=h1 xs hx.1 hx.2
  cases vs with
  |nil=>cases h3
  |cons a l'=>
   cases hvs with
   |cons _ x _ xs' hxa hxs=>
    obtain⟨v',k1,k2⟩:=FU (P:=P) l' a v h3 xs' x hxs hxa w
    refine⟨v', ?_,k1⟩
    cases mx<;>simp only[if_true,if_false,Bool.false_eq_true] at k2 ⊢<;>simp[a9,Builtin.max_,Builtin.min_,k2]
theorem Ll  (l:List α) (a v:α):(l++ [a]).set l.length v=l++ [v]:=by
 induction l with
 |nil=>rfl
 |cons x l ih=>simp[ih]
theorem Nt (vs:List Value):∀(off k:Nat) (cs:Array Value),off+k+vs.length<=cs.size->
 ((vs.zipIdx k).foldl (λcs (x:Value×Nat)=>cs.setIfInBounds (off+x.2) x.1) cs).toList=cs.toList.take (off+k)++vs++cs.toList.drop (off+k+vs.length):=by
 induction vs with
 |nil=>intro off k cs _;simp
 |cons v vs ih=>
  intro off k cs hle
  simp only[ab4] at hle
  rw[List.zipIdx_cons,List.foldl_cons,ih off (k+1) _ (by simp;omega)]
  have hlt:off+k<cs.toList.length:=by simp;omega
  simp only[Array.toList_setIfInBounds]
  rw[List.take_set,List.drop_set_of_lt (by omega)]
  have e1:cs.toList.take (off+(k+1))=cs.toList.take (off+k)++ [cs.toList[off+k]]:=by
   rw[show off+(k+1)=off+k+1 by omega,List.take_succ_eq_append_getElem hlt]
  have e2:=Ll (cs.toList.take (off+k)) cs.toList[off+k] v
  have e3:(cs.toList.take (off+k)).length=off+k:=by simp at hlt ⊢;omega
  rw[e3] at e2
  rw[e1,e2]
  simp only[ab1,ad8,ae4,ab4]
  rw[show off+(k+1)+vs.length=off+k+(vs.length+1) by omega]
theorem tN  {size:Nat} (hp:place i=some (off,size)) {cells:Array Value} {v:Value} (hv:v.cells.size=size) (hfit:off+v.cells.size<=cells.size) (rest:List (Nat×Value)):
 ∃cells',Instr.fill place cells ((i,v)::rest)=Instr.fill place cells' rest/\cells'.toList=cells.toList.take off++v.cells.toList++cells.toList.drop (off+v.cells.size):=by
 refine⟨v.cells.zipIdx.foldl (λcs (x:Value×Nat)=>cs.setIfInBounds (off+x.2) x.1) cells, ?_, ?_⟩
 ·rw[Instr.fill,hp]
  simp only
  rw[adE]
  simp[hv] at hfit ⊢;omega
 ·have:=Nt v.cells.toList off 0 cells (by simpa using hfit)
  rw[←Array.foldl_toList,Array.toList_zipIdx]
  simpa using this
def rf (ι:aZ) (t:Tm) (place:Nat->Option (Nat×Nat)):List (Nat×Nat×NOpd)->List (Nat×Value)->Prop
 | [], []=>True
 |p::ps,q::qs=>place q.1=some (p.1,p.2.1)/\OV ι t p.2.2 q.2/\rf ι t place ps qs
 |_,_=>False
theorem oI :∀(ps:List (Nat×Nat×NOpd)) (qs:List (Nat×Value)),rf ι t place ps qs->∀(l r:List NV),cX t ps l=some r->
 ∀(cs:Array Value),VRL ι l cs.toList->(∀u∈cs.toList,u.oneCell'=true)->∃rs,Instr.fill place cs qs=some rs/\VRL ι r rs.toList/\(∀u∈rs.toList,u.oneCell'=true):=by
 intro ps
 induction ps with
 |nil=>
  intro qs hq l r hr cs hl h1
  cases qs with
  |nil=>cases hr;exact⟨cs,rfl,hl,h1⟩
  |cons=>exact hq.elim
 |cons p ps ih=>
  intro qs hq l r hr cs hl h1
  cases qs with
  |nil=>exact hq.elim
  |cons q qs=>
   obtain⟨i,x⟩:=q
   obtain⟨q1,q2,q3⟩:=hq
   have hr':(Option.rec none (λv:NV=>Option.rec none (λcs=>dJ cs λk=>cond (Nat.beq k p.2.1) (Option.rec none (cX t ps) (dx cs p.1 l)) none) (cellsOf v)) (ρ t p.2.2):Option (List NV))=some r:=hr
   cases hv:ρ t p.2.2 with
   |none=>rw[hv] at hr';cases hr'
   |some v=>
    rw[hv] at hr'
    dsimp only at hr'
    cases hc:cellsOf v with
    |none=>rw[hc] at hr';cases hr'
    |some vs=>
     rw[hc] at hr'
     dsimp only at hr'
     rw[bS] at hr'
     cases hn:Nat.beq vs.length p.2.1 with
     |false=>rw[hn] at hr';cases hr'
     |true=>
      rw[hn,cond_true,ez] at hr'
      split at hr'
      ·rename_i hle
       have hn':=adK hn
       obtain⟨k1,k2⟩:=(q2 v hv).cells hc
       have hlen:=k1.length
       have hlen2:=hl.length
       simp at hlen hlen2
       obtain⟨cs',m1,m2⟩:=tN (place:=place) q1 (cells:=cs) (v:=x) (by omega) (by omega) qs
       have hr'':cX t ps (l.take p.1++vs++l.drop (p.1+vs.length))=some r:=hr'
       obtain⟨rs,n1,n2,n3⟩:=ih qs q3 _ r hr'' cs' (by rw[m2,hlen];exact ((hl.take _).app k1).app (hl.drop _)) (by
        rw[m2]
        intro u hu
        simp only[aa6] at hu
        rcases hu with (hu|hu)|hu
        ·exact h1 u (af5 hu)
        ·exact k2 u hu
        ·exact h1 u (List.mem_of_mem_drop hu))
       exact⟨rs,m1.trans n1,n2,n3⟩
      ·cases hr'
theorem oU :∀(ps:List (Nat×Nat×NOpd)) (qs:List (Nat×Value)),rf ι t place ps qs->∀(cur:Nat) (l r:List NV),cM t ps cur l=some r->
 ∀(cs:Array Value) (pre:List NV),pre.length=cur->VRL ι (pre++l) cs.toList->(∀u∈cs.toList,u.oneCell'=true)->∃rs,Instr.fill place cs qs=some rs/\VRL ι (pre++r) rs.toList/\(∀u∈rs.toList,u.oneCell'=true):=by
 intro ps
 induction ps with
 |nil=>
  intro qs hq cur l r hr cs pre hpre hl h1
  cases qs with
  |nil=>cases hr;exact⟨cs,rfl,hl,h1⟩
  |cons=>exact hq.elim
 |cons p ps ih=>
  intro qs hq cur l r hr cs pre hpre hl h1
  cases qs with
  |nil=>exact hq.elim
  |cons q qs=>
   obtain⟨i,x⟩:=q
   obtain⟨q1,q2,q3⟩:=hq
   have hr':(Option.rec none (λv:NV=>Option.rec none (λcs=>dJ cs λk=>cond (Nat.beq k p.2.1) (cond (Nat.ble cur p.1)
    (gT (Nat.sub p.1 cur) (λl=>Option.rec none (λl=>Option.rec none (λl=>iM cs l some) (cM t ps (Nat.add p.1 k) l)) (dN k l)) l) none) none) (cellsOf v)) (ρ t p.2.2):Option (List NV))=some r:=hr
   cases hv:ρ t p.2.2 with
   |none=>rw[hv] at hr';cases hr'
   |some v=>
    rw[hv] at hr'
    dsimp only at hr'
    cases hc:cellsOf v with
    |none=>rw[hc] at hr';cases hr'
    |some vs=>
     rw[hc] at hr'
     dsimp only at hr'
     rw[bS] at hr'
     cases hn:Nat.beq vs.length p.2.1 with
     |false=>rw[hn] at hr';cases hr'
     |true=>
      rw[hn,cond_true,bO] at hr'
      by_cases hcur:cur<=p.1
      case neg=>rw[adG hcur] at hr';cases hr'
      have hsub:∀a b:Nat,Nat.sub a b=a - b:=λ_ _=>rfl
      have hadd:∀a b:Nat,Nat.add a b=a+b:=λ_ _=>rfl
      rw[adH hcur,cond_true] at hr'
      simp only[hsub,hadd] at hr'
      obtain⟨a1,r',a2,a3⟩:=Gv hr'
      rw[fR] at a2
      split at a2
      ·rename_i hle
       dsimp only at a2
       cases hf:cM t ps (p.1+vs.length) ((l.drop (p.1 - cur)).drop vs.length) with
       |none=>rw[hf] at a2;cases a2
       |some r2=>
        rw[hf] at a2
        dsimp only at a2
        rw[eP] at a2
        cases a2
        have hn':=adK hn
        obtain⟨k1,k2⟩:=(q2 v hv).cells hc
        have hlen:=k1.length
        have hlen2:=hl.length
        simp at hlen hlen2 hle
        obtain⟨cs',m1,m2⟩:=tN (place:=place) q1 (cells:=cs) (v:=x) (by omega) (by omega) qs
        have hvr:VRL ι ((pre++l.take (p.1 - cur)++vs)++(l.drop (p.1 - cur)).drop vs.length) cs'.toList:=by
         rw[m2,←hlen]
         have e1:(pre++l).take p.1=pre++l.take (p.1 - cur):=by
          rw[List.take_append,ac9 (by omega),hpre]
         have e2:(pre++l).drop (p.1+vs.length)=(l.drop (p.1 - cur)).drop vs.length:=by
          rw[List.drop_append,ad0 (by omega),hpre,List.drop_drop]
          simp only[ae4]
          congr 1;omega
         rw[←e1,←e2]
         exact ((hl.take _).app k1).app (hl.drop _)
        obtain⟨rs,n1,n2,n3⟩:=ih qs q3 _ _ r2 hf cs' (pre++l.take (p.1 - cur)++vs) (by simp;omega) hvr (by
         rw[m2]
         intro u hu
         simp only[aa6] at hu
         rcases hu with (hu|hu)|hu
         ·exact h1 u (af5 hu)
         ·exact k2 u hu
         ·exact h1 u (List.mem_of_mem_drop hu))
        refine⟨rs,m1.trans n1, ?_,n3⟩
        rw[a3]
        simpa [ab1] using n2
      ·cases a2
end
open Go
section
variable {P:Program} {ι:aZ} {B:Nat} {h:NH} {w:World} {t:Tm}
theorem sT:∀{fs:List Field} {pl:List (Nat×Nat)},lP P fs=some pl->∀w,((fs.mapM λf=>do pure (f.offset,←Go.sizeOf f.type):Sem (List (Nat×Nat))).run P w)= .ok pl w:=by
 intro fs
 induction fs with
 |nil=>intro pl h w;cases h;simp
 |cons f fs ih=>
  intro pl h w
  have h':(match b9 P f.type,lP P fs with|some n,some l=>some ((f.offset,n)::l)|_,_=>none)=some pl:=h
  cases hs:b9 P f.type with
  |none=>rw[hs] at h';cases h'
  |some n=>
   rw[hs] at h'
   cases hp:lP P fs with
   |none=>rw[hp] at h';cases h'
   |some l=>
    rw[hp] at h';cases h'
    obtain⟨i,i1,i2⟩:=cF hs
    have hz:(Go.sizeOf f.type).run P w= .ok n w:=by simp[Go.sizeOf,typeInfo,i1,i2]
    simp only[List.mapM_cons,Sem.run_bind,hz,Result.andThen_ok,Sem.run_pure,ih hp w]
theorem fT  {i:TypeInfo} {zv:Value} (hi:P.info? T=some i) (hz:i.zero=some zv):(zeroValue T).run P w= .ok zv w:=by
 simp[zeroValue,typeInfo,hi,hz]
theorem gJ  {i:TypeInfo} (hi:P.info? T=some i):(Go.sizeOf T).run P w= .ok i.size w:=by
 simp[Go.sizeOf,typeInfo,hi]
theorem kR  (hz:zeroOf P T=some z) (hT:P.underlying T=some (.struct fs)) {pl:List (Nat×Nat)} (hpl:lP P fs.toList=some pl) (hq:rf ι t (kD pl) ps qs):bJ P ι B h w (mn z ps t h) (a9 ((Instr.build T qs.toArray).run P w)):=
 bh λhr=>by
  unfold mn at *
  obtain⟨r,h1,h2⟩:=aR rfl hr
  rw[←h2]
  obtain⟨i,zv,i1,i2,i3,i4,i5⟩:=cK (ι:=ι) hz
  obtain⟨rs,k1,k2,k3⟩:=oI ps qs hq z r h1 zv.cells i4 i5
  refine⟨_, ?_,VR.agg _ _ k2 k3⟩
  have hm:(fs.mapM λf=>do pure (f.offset,←Go.sizeOf f.type):Sem (Array (Nat×Nat))).run P w= .ok pl.toArray w:=by
   have e:(fs.mapM λf=>do pure (f.offset,←Go.sizeOf f.type):Sem (Array (Nat×Nat)))=(List.toArray<$>(fs.toList.mapM λf=>do pure (f.offset,←Go.sizeOf f.type))):=by
    rw[Array.mapM_eq_mapM_toList]
   rw[e,Sem.run_map,sT hpl w];rfl
  have hk:Instr.fill (pl.toArray[·]?) zv.cells qs=some rs:=by
   have e:(λi=>pl.toArray[i]?)=kD pl:=by funext i;rw[fH];simp
   rw[e];exact k1
  simp only[a9,Instr.build,Sem.run_bind,fT i1 i2,Result.andThen_ok,run_underlying hT,hm,hk]
  rfl
theorem lX  {n m:Nat} (hz:zeroOf P T=some z) (hT:P.underlying T=some (.array m e)) (hn:b9 P e=some n) (hq:rf ι t (λi=>some (Nat.mul i n,n)) ps qs):bJ P ι B h w (mn z ps t h) (a9 ((Instr.build T qs.toArray).run P w)):=
 bh λhr=>by
  unfold mn at *
  obtain⟨r,h1,h2⟩:=aR rfl hr
  rw[←h2]
  obtain⟨i,zv,i1,i2,i3,i4,i5⟩:=cK (ι:=ι) hz
  obtain⟨rs,k1,k2,k3⟩:=oI ps qs hq z r h1 zv.cells i4 i5
  obtain⟨j,j1,j2⟩:=cF hn
  refine⟨_, ?_,VR.agg _ _ k2 k3⟩
  have hk:Instr.fill (λi=>some (i*j.size,j.size)) zv.cells qs=some rs:=by rw[j2];exact k1
  simp only[a9,Instr.build,Sem.run_bind,fT i1 i2,Result.andThen_ok,run_underlying hT,gJ j1,hk]
  rfl
theorem j7 (z:Array Value):∀(n:Nat),((Array.range (n*z.size)).map (z[·% z.size]!)).toList=Nm.rep n z.toList:=by
 intro n
 apply List.ext_getElem?
 intro i
 rw[Array.getElem?_toList]
 by_cases hz:z.size=0
 ·have:z.toList= []:=by rw[←List.length_eq_zero_iff];simpa using hz
  have e:∀n,Nm.rep n ([]:List Value)= []:=λn=>by induction n with|zero=>rfl|succ n ih=>simpa [Nm.rep] using ih
  simp[hz,this,e]
 ·have key:∀n i,i<n*z.size->(Nm.rep n z.toList)[i]? =z[i % z.size]? :=by
   intro n
   induction n with
   |zero=>intro i hi;simp at hi
   |succ n ih=>
    intro i hi
    simp only[Nm.rep]
    by_cases h1:i<z.size
    ·rw[List.getElem?_append_left (by simpa using h1),Array.getElem?_toList,Nat.mod_eq_of_lt h1]
    ·rw[List.getElem?_append_right (by simp;omega)]
     have hi':i - z.size<n*z.size:=by rw[ad4,Nat.one_mul] at hi;omega
     have:=ih (i - z.size) hi'
     simp only[af2]
     rw[this,Nat.mod_eq_sub_mod (show i>=z.size by omega)]
  by_cases hi:i<n*z.size
  ·rw[key n i hi]
   have hm:i % z.size<z.size:=Nat.mod_lt _ (by omega)
   simp[hi,Array.getElem!_eq_getD,hm]
  ·rw[List.getElem?_eq_none (by rw[F3];simp;omega),Array.getElem?_eq_none (by simp;omega)]
theorem jT  {zs:List Value} (hz:VRL ι z zs) (h1:∀u∈zs,u.oneCell'=true) (n:Nat):VRL ι (Nm.rep n z) (Nm.rep n zs)/\∀u∈Nm.rep n zs,u.oneCell'=true:=by
 refine⟨hz.rep n, ?_⟩
 induction n with
 |zero=>simp[Nm.rep]
 |succ n ih=>intro u hu;rw[Nm.rep,aa6] at hu;rcases hu with hu|hu;exact h1 u hu;exact ih u hu
theorem VRL.atA  (hl:VRL ι cs vs) (h1:∀u∈vs,u.oneCell'=true) (hp:∀(i:Nat) (u:Value),vs[i]? =some u->cur[i]? =some u):
 ∀(i:Nat) (v:NV),cs[i]? =some v->∃v':Value,cur[i]? =some v'/\VR ι v v'/\v'.oneCell'=true:=λi v hi=>by
 obtain⟨v',a,b⟩:=hl.get hi
 exact⟨v',hp i v' a,b,h1 v' (List.mem_of_getElem? a)⟩
theorem Ik (vs:List (Value×Nat)) (off:Nat):∀cs:Array Value,(vs.foldl (λcs (x:Value×Nat)=>cs.setIfInBounds (off+x.2) x.1) cs).size=cs.size:=by
 induction vs with
 |nil=>intro cs;rfl
 |cons v vs ih=>intro cs;rw[List.foldl_cons,ih];simp
theorem tI :∀(qs:List (Nat×Value)) (cs rs:Array Value),Instr.fill place cs qs=some rs->rs.size=cs.size:=by
 intro qs
 induction qs with
 |nil=>intro cs rs h;cases h;rfl
 |cons q qs ih=>
  intro cs rs h
  obtain⟨i,v⟩:=q
  unfold Instr.fill at h
  split at h
  ·cases h
  ·split at h
   ·cases h
   ·rw[ih _ _ h,←Array.foldl_toList];exact Ik _ _ _
theorem mZ  {n len':Nat} {z':List NV} (hT:P.underlying T=some (.slice e)) (hz:zeroOf P e=some z) (hn:b9 P e=some n) (h0:1<=n) (hsz:len*n<=16777216) (hz':z'=Nm.rep len z) (hlen:len'=len) (hq:rf ι t (λi=>some (Nat.mul i n,n)) ps qs) (hR:Rel P ι B h w) (hB:B<=w.heap.size):
 bJ P ι B h w (iZ z' n len' T' ps t h) (a9 ((Instr.buildSlice T len qs.toArray).run P w)):=
 bh λhr=>by
  unfold iZ at *
  obtain⟨r,h1,h2⟩:=aR rfl hr
  rw[←h2,NH.new_eq]
  subst hz' hlen
  obtain⟨i,zv,i1,i2,i3,i4,i5⟩:=cK (ι:=ι) hz
  obtain⟨j,j1,j2⟩:=cF hn
  rw[i1] at j1;cases j1
  have hzl:=i4.length
  have hsize:zv.cells.size=n:=by simp at hzl;omega
  have hrow:((Array.range (len'*n)).map (zv.cells[·% zv.cells.size]!)).toList=Nm.rep len' zv.cells.toList:=by rw[←hsize];exact j7 zv.cells len'
  obtain⟨q1,q2⟩:=jT i4 i5 len'
  obtain⟨rs,k1,k2,k3⟩:=oU ps qs hq 0 _ r h1 ((Array.range (len'*n)).map (zv.cells[·% zv.cells.size]!)) [] rfl (by rw[hrow];simpa using q1) (by rw[hrow];exact q2)
  simp only[ae4] at k2
  have hrs:rs.size=len'*n:=by rw[tI _ _ _ k1];simp
  obtain⟨ι',m1,m2,m3,m4⟩:=fh hR hB true r rs e (by rw[k2.length];simp) (k2.atA k3 λi u hu=>by simpa using hu)
  refine⟨_,_,ι',.inl ?_,VR.slc _ 0 len' n _ _ _ len' m1 (aa2 _) (aa2 _) ?_ h0 (λ_=>⟨rfl, ?_⟩),m3,m4⟩
  ·have hle:¬len'*i.size>2 ^ 24:=by rw[j2];omega
   have hp:(λx=>some (x*i.size,i.size))=(λx:Nat=>some (Nat.mul x n,n)):=by rw[j2];rfl
   by_cases hnz:len'*i.size=0
   ·have:len'=0:=by rw[j2] at hnz;rcases Nat.mul_eq_zero.1 hnz with h|h<;>omega
    subst this
    have e1:((Array.range (0*n)).map (zv.cells[·% zv.cells.size]!))=#[]:=by simp
    rw[e1] at k1
    have e2:∀f:Nat->Value,((Array.range (0*i.size)).map f)=#[]:=λf=>by simp
    simp only[a9,Instr.buildSlice,Sem.run_bind,run_underlying hT,Result.andThen_ok,gJ i1,adE hle,Sem.run_pure,adF hnz,e2,hp,k1]
    simp[newRow]
   ·simp only[a9,Instr.buildSlice,Sem.run_bind,run_underlying hT,Result.andThen_ok,gJ i1,adE hle,Sem.run_pure,adE hnz,fT i1 i2,hp]
    rw[j2,k1]
    simp[newRow]
  ·have:=Nat.le_mul_of_pos_right len' h0;simp only[maxLen];omega
  ·rw[hrs];simp
theorem eJ {x:Option NOpd} {d:Nat} {K:Nat->NR} (e:dD t x d K=r) (hr:r≠.fail):
 ∃n,K n=r/\((x=none/\n=d)∨∃y k,x=some y/\ρ t y=some (.int k (.lit (.ofNat n)))):=by
 cases x with
 |none=>exact⟨d,e,.inl ⟨rfl,rfl⟩⟩
 |some y=>
  obtain⟨k,n,h1,h2⟩:=ee (show gR t y K=r from e) hr
  exact⟨n,h2,.inr ⟨y,k,rfl,h1⟩⟩
def BV (ι:aZ) (t:Tm):Option NOpd->Option Value->Prop
 |none,none=>True
 |some y,some x=>OV ι t y x
 |_,_=>False
theorem kw  {y:Nat} (hi:i<=y) (c:BoundsCode):(Instr.sliceBound (.int k (Int.ofNat i)) y c).run P w= .ok i w:=by
 have h1:(0:Int)<=(i:Int)/\(i:Int)<=(y:Int):=by omega
 simp only[Instr.sliceBound,asIntOf,Sem.run_bind,Sem.run_pure,Result.andThen_ok,af4]
 rw[adF h1]
 simp
def BD (v:Option Value) (d n:Nat):Prop:=(v=none/\n=d)∨∃k,v=some (.int k (Int.ofNat n))
theorem kP {isS:Bool} {cap a b:Nat} {lo hi:Option Value} (hl:BD lo 0 a) (hh:BD hi len b) (hab:a<=b) (hbc:b<=cap):(Instr.sliceBounds isS len cap lo hi none).run P w= .ok (a,b,cap) w:=by
 rcases hl with⟨rfl,rfl⟩|⟨k,rfl⟩<;>rcases hh with⟨rfl,rfl⟩|⟨k',rfl⟩
 ·simp[Instr.sliceBounds]
 ·simp only[Instr.sliceBounds,Sem.run_bind,Sem.run_pure,Result.andThen_ok,kw hbc]
 ·simp only[Instr.sliceBounds,Sem.run_bind,Sem.run_pure,Result.andThen_ok,kw hab]
 ·simp only[Instr.sliceBounds,Sem.run_bind,Sem.run_pure,Result.andThen_ok,kw hbc,kw hab]
theorem BV.bd {x:Option NOpd} {v:Option Value} (hb:BV ι t x v) {n d:Nat} (hx:(x=none/\n=d)∨∃y k,x=some y/\ρ t y=some (.int k (.lit (.ofNat n)))):BD v d n:=by
 rcases hx with⟨rfl,rfl⟩|⟨y,k,rfl,h⟩
 ·cases v with|none=>exact .inl ⟨rfl,rfl⟩|some=>exact hb.elim
 ·cases v with
  |none=>exact hb.elim
  |some v=>have hv:=hb _ h;cases hv;exact .inr ⟨_,rfl⟩
theorem qI  (hT:P.underlying T=some .string) (hx:OV ι t y x) (hl:BV ι t lo vl) (hh:BV ι t hi vh):
 bJ P ι B h w (lf y lo hi t h) (a9 ((Instr.sliceAt T x vl vh none).run P w)):=
 bh λhr=>by
  obtain⟨v,h1,h2⟩:=aT rfl hr
  unfold lf at *
  rw[←h2];rw[←h2] at hr
  have hv:=hx v h1
  cases hv with
  |str l s hs=>
   dsimp only at hr ⊢
   rw[bS] at hr ⊢
   obtain⟨b,h3,h4⟩:=eJ rfl hr
   rw[←h3];rw[←h3] at hr
   obtain⟨a,h5,h6⟩:=eJ rfl hr
   rw[←h5];rw[←h5] at hr
   obtain⟨h7,h8⟩:=aY rfl hr
   rw[←h8];rw[←h8] at hr
   obtain⟨u,h9,h10⟩:=aR rfl hr
   rw[←h10];rw[←h10] at hr
   obtain⟨u',h11,h12⟩:=aR rfl hr
   rw[←h12]
   rw[jH] at h9
   split at h9
   ·rename_i hle
    cases h9
    rw[fR] at h11
    split at h11
    ·cases h11
     rw[bO] at h7
     have hab:=of_decide_eq_true h7
     subst hs
     rw[aa0,cp] at hle h4
     have hrun:=kP (P:=P) (w:=w) (isS:=false) (hl.bd h6) (hh.bd h4) hab hle
     refine⟨.string (s.extract a b), ?_,.str _ _ ?_⟩
     ·simp[a9,Instr.sliceAt,Instr.slice,run_underlying hT,hrun]
     ·simp only[ByteArray.data_extract,Array.toList_extract,List.extract_eq_take_drop]
      rw[←List.map_take,←List.map_drop,List.drop_take]
    ·cases h11
   ·cases h9
  |_=>exact adD rfl hr
theorem SN (a b:Nat):(Bool.rec b a (Nat.ble b a):Nat)=Nat.max a b:=by
 rw[bO]
 by_cases h:b<=a
 ·have e:Nat.max a b=a:=Nat.max_eq_left h
  rw[adH h,e]
 ·have e:Nat.max a b=b:=Nat.max_eq_right (by omega)
  rw[adG h,e]
theorem sliced  {a b cap cap' kc:Nat} {ad:Addr} (hp:ι id=some p) (_hl:len<=cap) (hm:cap<=maxLen) (he:0<e) (ha:0<cap->ad=⟨p.b,p.o+off,none⟩/\p.o+off+cap*e<=p.n)
 (hab:a<=b) (hbc:b<=cap') (hcc:cap'<=cap) (hkc:kc<=cap' - a):VR ι (.slc id (off+a*e) (b - a) e kc) (.slice (if cap'=a then some ad else (some ad).map (·.add (a*e))) (b - a) (cap' - a)):=by
 by_cases hc:cap'=a
 ·rw[adF hc]
  exact .slc id _ _ e _ p ad _ hp (by omega) hkc (by omega) he (λh=>adD h (by omega))
 ·rw[adE hc]
  obtain⟨h1,h2⟩:=ha (by omega)
  subst h1
  refine .slc id _ _ e _ p _ _ hp (by omega) hkc (by omega) he (λ_=>⟨by simp[Addr.add_mid,Nat.add_assoc], ?_⟩)
  have h3:(cap' - a)*e+a*e<=cap*e:=by
   rw[←ad4];exact ae7 _ (by omega)
  omega
theorem pX  {n:Nat} (hT:P.underlying T=some (.slice e)) (hn:b9 P e=some n) (hx:OV ι t y x) (hl:BV ι t lo vl) (hh:BV ι t hi vh):
 bJ P ι B h w (li n y lo hi t h) (a9 ((Instr.sliceAt T x vl vh none).run P w)):=
 bh λhr=>by
  obtain⟨v,h1,h2⟩:=aT rfl hr
  unfold li at *
  rw[←h2];rw[←h2] at hr
  have hv:=hx v h1
  obtain⟨i,i1,i2⟩:=cF hn
  cases hv with
  |slc id off len es kc p ad cap hp hle hk hm he ha=>
   dsimp only at hr ⊢
   obtain⟨b,h3,h4⟩:=eJ rfl hr
   rw[←h3];rw[←h3] at hr
   obtain⟨a,h5,h6⟩:=eJ rfl hr
   rw[←h5];rw[←h5] at hr
   obtain⟨h7,h8⟩:=aY rfl hr
   rw[←h8];rw[←h8] at hr
   obtain⟨h9,h10⟩:=aY rfl hr
   rw[←h10];rw[←h10] at hr
   obtain⟨h11,h12⟩:=aY rfl hr
   rw[←h12,aj,aj,aj]
   rw[SN,bO] at h9
   rw[bO] at h7
   have hab:=of_decide_eq_true h7
   have hbl:b<=Nat.max len kc:=of_decide_eq_true h9
   have hbl:b<=cap:=ab9 hbl (Nat.max_le.2 ⟨hle,hk⟩)
   obtain rfl:=adK h11
   have hrun:=kP (P:=P) (w:=w) (isS:=true) (hl.bd h6) (hh.bd h4) hab (show b<=cap by omega)
   refine⟨_, ?_,sliced hp hle hm he ha hab (show b<=cap by omega) (aa2 _) (Nat.sub_le_sub_right hk _)⟩
   simp[a9,Instr.sliceAt,Instr.slice,run_underlying hT,hrun,gJ i1,i2]
  |nils=>
   dsimp only at hr ⊢
   obtain⟨b,h3,h4⟩:=eJ rfl hr
   rw[←h3];rw[←h3] at hr
   obtain⟨a,h5,h6⟩:=eJ rfl hr
   rw[←h5];rw[←h5] at hr
   obtain⟨h7,h8⟩:=aY rfl hr
   rw[←h8];rw[←h8] at hr
   obtain⟨h9,h10⟩:=aY rfl hr
   rw[←h10]
   obtain rfl:=adK h7
   obtain rfl:=adK h9
   have hrun:=kP (P:=P) (w:=w) (isS:=true) (len:=0) (cap:=0) (hl.bd h6) (hh.bd h4) (aa2 _) (aa2 _)
   refine⟨_, ?_,.nils⟩
   simp[a9,Instr.sliceAt,Instr.slice,run_underlying hT,hrun,gJ i1]
  |_=>exact adD rfl hr
end
open Go
section
variable {P:Program} {ι:aZ} {B:Nat} {h:NH} {w:World} {t:Tm}
theorem nJ  (hT:P.underlying T=some d) (hn:∀m,d≠.interface m) {z:NV} (hz:tS P T=some z) (hTT:T'=T) (X:TypeId) (hx:OV ι t y x):
 bJ P ι B h w (iV T' z y t h) (a9 ((Instr.typeAssert x X T true).run P w)):=
 bh λhr=>by
  obtain⟨v,h1,h2⟩:=aT rfl hr
  unfold iV at *
  rw[←h2];rw[←h2] at hr
  have hv:=hx v h1
  subst hTT
  obtain⟨zv,hzv,hzr⟩:∃zv,(∀w,(zeroValue T').run P w= .ok zv w)/\VR ι z zv:=by
   unfold tS at hz
   cases hi:P.info? T' with
   |none=>rw[hi] at hz;cases hz
   |some i=>
    rw[hi] at hz
    cases hzz:i.zero with
    |none=>simp only[hzz] at hz;cases hz
    |some zv=>simp only[hzz] at hz;exact⟨zv,λw=>fT hi hzz,eQ hz⟩
  cases hv with
  |nili=>
   refine⟨_, ?_,.tup _ [zv,.bool false] (.cons _ _ _ _ hzr (.cons _ _ _ _ (.bool _) .nil))⟩
   unfold Instr.typeAssert
   rw[a9,Sem.run_bind,run_underlying hT]
   cases d<;>first|exact adD rfl (hn _)|simp[hzv]
  |ifc u a a' ha=>
   dsimp only
   cases hb:Nat.beq u T' with
   |true=>
    obtain rfl:=adK hb
    refine⟨_, ?_,.tup _ [a',.bool true] (.cons _ _ _ _ ha (.cons _ _ _ _ (.bool _) .nil))⟩
    unfold Instr.typeAssert
    rw[a9,Sem.run_bind,run_underlying hT]
    cases d<;>first|exact adD rfl (hn _)|simp
   |false=>
    have hne:u≠T':=ad3 hb
    refine⟨_, ?_,.tup _ [zv,.bool false] (.cons _ _ _ _ hzr (.cons _ _ _ _ (.bool _) .nil))⟩
    unfold Instr.typeAssert
    rw[a9,Sem.run_bind,run_underlying hT]
    cases d<;>first|exact adD rfl (hn _)|simp[hne,hzv]
  |_=>exact adD rfl hr
theorem yD (T:TypeId) (hR:Rel P ι B h w) (hB:B<=w.heap.size):bJ P ι B h w (ud t h) (a9 ((Instr.makeMap T none).run P w)):=by
 unfold ud
 rw[NH.new_eq]
 obtain⟨ι',h1,h2,h3,h4⟩:=hR.alloc hB (.map []) (.map #[] 0) ⟨w.heap.size,0,0⟩ rfl λι' hle=>⟨#[],0,eF w _,trivial,MapKept.stamped_empty 0⟩
 exact⟨_,_,ι',.inl rfl,.map _ _ h1,h3,h4⟩
def KD (s:Bool) (d:TypeDesc):Prop:=if s then d= .string else ∃k,d= .int k
theorem DQ  (e:EE P T=some s):∃d,P.underlying T=some d/\KD s d:=by
 unfold EE at e
 split at e
 ·rename_i hu;cases e;exact⟨_,hu,_,rfl⟩
 ·rename_i hu;cases e;exact⟨_,hu,rfl⟩
 ·cases e
theorem nL  (hd:P.underlying T=some d) (hk:KD s d) (em:Bool) (n:Nat) (k:Value):(Instr.checkKey em (n+1) T k).run P w= .ok () w:=by
 unfold Instr.checkKey
 simp only[Sem.run_bind,run_underlying hd,Result.andThen]
 cases s with
 |true=>obtain rfl:=hk;rfl
 |false=>obtain⟨_,rfl⟩:=hk;rfl
theorem nZ  {a b:NV} {r:Bool} (e:jw s a b=some r) {y:Value} (hx:VR ι a x) (hy:VR ι b y) (hd:KD s d):
 Instr.sameNow d x y=some r/\(r=true->y=x)/\Instr.sameBits 10000 x x=true:=by
 unfold jw at e
 split at e
 ·rename_i k a k' b
  obtain⟨q,rfl⟩:=hd
  cases hx;cases hy
  cases hk:EF k k' with
  |false=>rw[hk] at e;cases e
  |true=>
   rw[hk] at e;cases e
   obtain rfl:=vJ hk
   rw[iw]
   refine⟨?_,λhh=> ?_,by simp[Instr.sameBits]⟩
   ·simp only[Instr.sameNow,if_true]
   ·exact congrArg (Value.int k) (of_decide_eq_true hh).symm
 ·rename_i a b
  obtain rfl:=hd
  cases hx with
  |str _ s1 h1=>cases hy with
   |str _ s2 h2=>
    cases e
    rw[qJ]
    have hiff:(a=b)↔s1=s2:=by
     subst h1 h2
     constructor
     ·intro hh
      have:=List.map_inj_right (f:=UInt8.toNat) (λx y hxy=>UInt8.toNat_inj.1 hxy) |>.1 hh
      cases s1;cases s2;simp at this;rw[this]
     ·rintro rfl;rfl
    refine⟨?_,λhh=> ?_,by simp only[Instr.sameBits];exact (MapKept.bytes_beq _ _).2 rfl⟩
    ·simp only[Instr.sameNow]
     congr 1
     rw[ad5,MapKept.bytes_beq,beq_iff_eq]
     exact hiff.symm
    ·rw[hiff.1 (beq_iff_eq.1 hh)]
 ·cases e
theorem yT  {k:NV} (hx:VR ι k x) (hd:KD s d):∀(l:List (NV×NV)) (es:List MapEntry) (r:Option NV) (i:Nat),gP s k l=some r->MR ι l es->
 (r=none/\Instr.findNow d x es i=some none)∨∃v v' j,r=some v/\VR ι v v'/\Instr.findNow d x es i=some (some (j,v')):=by
 intro l
 induction l with
 |nil=>intro es r i e hm;cases es with|nil=>cases e;exact .inl ⟨rfl,rfl⟩|cons=>exact hm.elim
 |cons a l ih=>
  intro es r i e hm
  cases es with
  |nil=>exact hm.elim
  |cons b es=>
   obtain⟨m1,m2,m3⟩:=hm
   have e':(Option.rec none (λb=>cond b (some (some a.2)) (gP s k l)) (jw s k a.1):Option (Option NV))=some r:=e
   cases hq:jw s k a.1 with
   |none=>rw[hq] at e';cases e'
   |some q=>
    rw[hq] at e'
    obtain⟨s1,s2,_⟩:=nZ hq hx m1 hd
    cases q with
    |true=>
     cases e'
     exact .inr ⟨_,_,i,rfl,m2,by rw[Instr.findNow,s1]⟩
    |false=>
     have e'':gP s k l=some r:=e'
     rcases ih es r (i+1) e'' m3 with⟨r1,r2⟩|⟨v,v',j,r1,r2,r3⟩
     ·exact .inl ⟨r1,by rw[Instr.findNow,s1];exact r2⟩
     ·exact .inr ⟨v,v',j,r1,r2,by rw[Instr.findNow,s1];exact r3⟩
theorem pU  {K:List (NV×NV)->NR} (e:qO h v K=r) (hr:r≠.fail):(v= .nilm/\K []=r)∨∃id l,v= .map id/\h.get id=some (.map l)/\K l=r:=by
 unfold qO at e
 split at e
 ·exact .inl ⟨rfl,e⟩
 ·split at e
  ·rename_i id _ l hl;exact .inr ⟨_,l,rfl,hl,e⟩
  ·exact adD e.symm hr
 ·exact adD e.symm hr
theorem vQ  {kt et:Nat} (hT:P.underlying T=some (.map kt et)) (hs:EE P kt=some s) {z:NV} (hz:tS P et=some z) (ok:Bool) {k:Value} (hx:OV ι t y x) (hk:OV ι t q k) (hR:Rel P ι B h w):
 bJ P ι B h w (qk s z ok y q t h) (a9 ((Instr.lookup T x k ok).run P w)):=
 bh λhr=>by
  obtain⟨v,h1,h2⟩:=aT rfl hr
  unfold qk at *
  rw[←h2];rw[←h2] at hr
  obtain⟨u,h3,h4⟩:=aT rfl hr
  rw[←h4];rw[←h4] at hr
  obtain⟨d,hd,hkd⟩:=DQ hs
  have hv:=hx v h1
  have hu:=hk u h3
  obtain⟨zv,hzv,hzr⟩:∃zv,(∀w,(zeroValue et).run P w= .ok zv w)/\VR ι z zv:=by
   unfold tS at hz
   cases hi:P.info? et with
   |none=>rw[hi] at hz;cases hz
   |some i=>
    rw[hi] at hz
    cases hzz:i.zero with
    |none=>simp only[hzz] at hz;cases hz
    |some zv=>simp only[hzz] at hz;exact⟨zv,λw=>fT hi hzz,eQ hz⟩
  have fin:∀(l:List (NV×NV)) (es:Array MapEntry),MR ι l es.toList->∀r,gP s u l=some r->∃a,(Instr.findKey kt k es.toList).run P w= .ok a w/\
   match a with
   |none=>r=none
   |some (_,v')=>∃v,r=some v/\VR ι v v':=by
   intro l es hm r hf
   rcases yT hu hkd l es.toList r 0 hf hm with⟨rfl,r2⟩|⟨v,v',j,rfl,r2,r3⟩
   ·exact⟨_,MapKept.run_findKey (P:=P) (w:=w) hd r2,rfl⟩
   ·exact⟨_,MapKept.run_findKey (P:=P) (w:=w) hd r3,v,rfl,r2⟩
  rcases pU rfl hr with⟨rfl,h5⟩|⟨id,l,rfl,h6,h5⟩
  ·rw[←h5];rw[←h5] at hr
   obtain⟨r,h7,h8⟩:=aR rfl hr
   rw[←h8]
   cases hv
   obtain⟨a,ha,hb⟩:=fin [] #[] trivial r h7
   have hc:=nL (P:=P) (w:=w) hd hkd (#[]:Array MapEntry).isEmpty 9999 k
   have hrun:(Instr.lookup T (.map none) k ok).run P w= .ok (if ok then .tuple #[(a.map (·.2)).getD zv,.bool a.isSome] else (a.map (·.2)).getD zv) w:=by
    simp only[Instr.lookup,Sem.run_bind,run_underlying hT,Result.andThen_ok,Sem.run_pure,hc,ha]
    cases a<;>simp[hzv]
   rw[a9,hrun]
   cases a with
   |none=>
    obtain rfl:=hb
    cases ok with
    |true=>exact⟨_,rfl,.tup _ [zv,.bool false] (.cons _ _ _ _ hzr (.cons _ _ _ _ (.bool _) .nil))⟩
    |false=>exact⟨zv,rfl,hzr⟩
   |some a=>
    obtain⟨v,rfl,hv⟩:=hb
    cases ok with
    |true=>exact⟨_,rfl,.tup _ [a.2,.bool true] (.cons _ _ _ _ hv (.cons _ _ _ _ (.bool _) .nil))⟩
    |false=>exact⟨a.2,rfl,hv⟩
  ·rw[←h5];rw[←h5] at hr
   obtain⟨r,h7,h8⟩:=aR rfl hr
   rw[←h8]
   cases hv with
   |map _ p hp=>
    obtain⟨es,clock,k1,k2,_⟩:=hR.mapAt hp h6
    have hg:=rb (P:=P) k1 (by simp)
    obtain⟨a,ha,hb⟩:=fin l es k2 r h7
    have hc:=nL (P:=P) (w:=w) hd hkd es.isEmpty 9999 k
    have hrun:(Instr.lookup T (.map (some p.b)) k ok).run P w= .ok (if ok then .tuple #[(a.map (·.2)).getD zv,.bool a.isSome] else (a.map (·.2)).getD zv) w:=by
     simp only[Instr.lookup,Sem.run_bind,run_underlying hT,Result.andThen_ok,Sem.run_pure,hg,hc,ha]
     cases a<;>simp[hzv]
    rw[a9,hrun]
    cases a with
    |none=>
     obtain rfl:=hb
     cases ok with
     |true=>exact⟨_,rfl,.tup _ [zv,.bool false] (.cons _ _ _ _ hzr (.cons _ _ _ _ (.bool _) .nil))⟩
     |false=>exact⟨zv,rfl,hzr⟩
    |some a=>
     obtain⟨v,rfl,hv⟩:=hb
     cases ok with
     |true=>exact⟨_,rfl,.tup _ [a.2,.bool true] (.cons _ _ _ _ hv (.cons _ _ _ _ (.bool _) .nil))⟩
     |false=>exact⟨a.2,rfl,hv⟩
theorem QZ :∀{es:List MapEntry} {i:Nat},Instr.findNow d x es i=some none->∀e∈es,e.key≠x:=by
 intro es
 induction es with
 |nil=>intro i _ e he;simp at he
 |cons a es ih=>
  intro i h e he
  rw[Instr.findNow] at h
  split at h
  ·cases h
  ·rename_i hf
   rcases aa1.1 he with rfl|he
   ·intro hx
    rw[hx] at hf
    have hb:∀s:ByteArray,(s==s)=true:=λs=>(MapKept.bytes_beq s s).2 rfl
    have hself:Instr.sameNow d x x≠some false:=by
     cases d<;>cases x<;>simp[Instr.sameNow,hb]
    exact hself hf
   ·exact ih h e he
  ·cases h
theorem Rel.setMap (hR:Rel P ι B h w) (hp:ι id=some p) {l:List (NV×NV)} (hl:h.get id=some (.map l)) {es:Array MapEntry} {clock:Nat} (hb:w.heap[p.b]? =some (.map es clock))
 {l':List (NV×NV)} {es':Array MapEntry} (clock':Nat) (hm:MR ι l' es'.toList) (hst:MapKept.Stamped es' clock'):
 Rel P ι B (h.put id (.map l')) {w with heap:=w.heap.setIfInBounds p.b (.map es' clock')}/\Grow ι h w ι (h.put id (.map l')) {w with heap:=w.heap.setIfInBounds p.b (.map es' clock')}:=
 hR.turn hp (by rw[hl];simp) _ ⟨es',clock',(MapKept.heap_set hb).1,hm,hst⟩ (by simp) rfl rfl rfl λb hne=>(MapKept.heap_set hb).2 b hne
theorem Fi  {k:NV} {y:Value} (hx:VR ι k x) (hy:VR ι v y) (hd:KD s d):∀(l:List (NV×NV)) (es:List MapEntry) (r:List (NV×NV)) (i:Nat),mN s k v l=some r->MR ι l es->
 (Instr.findNow d x es i=some none/\∀e:MapEntry,e.key=x->e.val=y->MR ι r (es++ [e]))∨
 ∃j e,Instr.findNow d x es i=some (some (i+j,e.val))/\es[j]? =some e/\e.key=x/\Instr.sameBits 10000 x x=true/\MR ι r (es.modify j λe=>{e with key:=x,val:=y}):=by
 intro l
 induction l with
 |nil=>intro es r i e hm;cases es with|nil=>cases e;exact .inl ⟨rfl,λe e1 e2=>⟨e1▸hx,e2▸hy,trivial⟩⟩|cons=>exact hm.elim
 |cons a l ih=>
  intro es r i e hm
  cases es with
  |nil=>exact hm.elim
  |cons b es=>
   obtain⟨m1,m2,m3⟩:=hm
   have e':(Option.rec none (λb=>cond b (some ((k,v)::l)) (Option.rec none (λt=>some (a::t)) (mN s k v l))) (jw s k a.1):Option (List (NV×NV)))=some r:=e
   cases hq:jw s k a.1 with
   |none=>rw[hq] at e';cases e'
   |some q=>
    rw[hq] at e'
    obtain⟨s1,s2,s3⟩:=nZ hq hx m1 hd
    cases q with
    |true=>
     cases e'
     refine .inr ⟨0,b,by rw[Instr.findNow,s1];rfl,rfl,s2 rfl,s3, ?_⟩
     exact⟨hx,hy,m3⟩
    |false=>
     have e'':(Option.rec none (λt=>some (a::t)) (mN s k v l):Option (List (NV×NV)))=some r:=e'
     cases hu:mN s k v l with
     |none=>rw[hu] at e'';cases e''
     |some r'=>
      rw[hu] at e'';cases e''
      rcases ih es r' (i+1) hu m3 with⟨r1,r2⟩|⟨j,e,r1,r2,r3,r4,r5⟩
      ·exact .inl ⟨by rw[Instr.findNow,s1];exact r1,λe e1 e2=>⟨m1,m2,r2 e e1 e2⟩⟩
      ·refine .inr ⟨j+1,e,by rw[Instr.findNow,s1];rw[show i+(j+1)=i+1+j by omega];exact r1,by simpa using r2,r3,r4, ?_⟩
       exact⟨m1,m2,r5⟩
theorem ju  {kt et:Nat} (hT:P.underlying T=some (.map kt et)) (hs:EE P kt=some s) {z:NOpd} {k:Value} (hx:OV ι t y x) (hk:OV ι t q k) (hu:OV ι t z u) (hR:Rel P ι B h w):
 bJ P ι B h w (jC s y q z t h) (EH ((Instr.mapUpdate T x k u).run P w)):=
 bh λhr=>by
  obtain⟨v,h1,h2⟩:=aT rfl hr
  unfold jC at *
  rw[←h2];rw[←h2] at hr
  obtain⟨v2,h3,h4⟩:=aT rfl hr
  rw[←h4];rw[←h4] at hr
  obtain⟨v3,h5,h6⟩:=aT rfl hr
  rw[←h6];rw[←h6] at hr
  obtain⟨d,hd,hkd⟩:=DQ hs
  have hv:=hx v h1
  have hv2:=hk v2 h3
  have hv3:=hu v3 h5
  cases hv with
  |map id p hp=>
   dsimp only at hr ⊢
   rcases pU rfl hr with⟨h7,_⟩|⟨id',l,h7,h8,h9⟩
   ·cases h7
   ·cases h7
    rw[←h9];rw[←h9] at hr
    obtain⟨r,h10,h11⟩:=aR rfl hr
    rw[←h11,NH.set_eq]
    obtain⟨es,clock,k1,k2,kst⟩:=hR.mapAt hp h8
    have hg:=rb (P:=P) k1 (by simp)
    have hc:=nL (P:=P) (w:=w) hd hkd false 9999 k
    rcases Fi hv2 hv3 hkd l es.toList r 0 h10 k2 with⟨r1,r2⟩|⟨j,e,r1,r2,r3,r4,r5⟩
    ·have hf:=MapKept.run_findKey (P:=P) (w:=w) hd r1
     obtain⟨m1,m2⟩:=hR.setMap hp h8 k1 (l':=r) (es':=es.push {key:=k,val:=u,born:=clock}) (clock+1) (by simpa using r2 _ rfl rfl) (MapKept.stamped_push kst (QZ r1))
     refine⟨undef,_,ι,.inr ⟨?_,rfl⟩,fO,m1,m2⟩
     simp only[EH,Instr.mapUpdate,Sem.run_bind,run_underlying hT,Result.andThen_ok,hg,hc,hf,MapKept.run_setObj_map _ k1]
    ·rw[ad1] at r1
     have hf:=MapKept.run_findKey (P:=P) (w:=w) hd r1
     have he:es[j]? =some e:=by simpa using r2
     have hst:(Instr.keyThatStays k k).run P w= .ok k w:=by simp[Instr.keyThatStays,r4]
     obtain⟨m1,m2⟩:=hR.setMap hp h8 k1 (l':=r) (es':=es.modify j λe=>{e with key:=k,val:=u}) clock (by simpa using r5) (MapKept.stamped_modify kst j _ (λ_ _=>rfl) λx _ hx=>by rw[he] at hx;cases hx;exact r3.symm)
     refine⟨undef,_,ι,.inr ⟨?_,rfl⟩,fO,m1,m2⟩
     simp only[EH,Instr.mapUpdate,Sem.run_bind,run_underlying hT,Result.andThen_ok,hg,hc,hf,he,Option.map_some,ae5,r3,hst,MapKept.run_setObj_map _ k1]
  |_=>exact adD rfl hr
end
open Go
theorem NT.put_put  (d:D4) (v u:α) (t:NT α):NT.put d u (NT.put d v t)=NT.put d u t:=by
 induction d generalizing t with
 |e=>cases t<;>rfl
 |a d ih=>cases t<;>simp only[NT.put_a,ih]
 |b d ih=>cases t<;>simp only[NT.put_b,ih]
 |c d ih=>cases t<;>simp only[NT.put_c,ih]
 |f d ih=>cases t<;>simp only[NT.put_f,ih]
theorem NH.put_put (h:NH) (id:D4) (a b:NO):(h.put id a).put id b=h.put id b:=by
 unfold NH.put;simp only[NT.put_put]
section
variable {P:Program} {ι:aZ} {B:Nat} {h:NH} {w:World} {t:Tm}
theorem Rel.kill (hR:Rel P ι B h w) (hp:ι id=some p) (hd:Live (h.get id)):Rel P ι B (h.put id .dead) w/\Grow ι h w ι (h.put id .dead) w:=
 hR.turn hp hd .dead trivial rfl rfl rfl rfl λ_ _=>rfl
theorem Rel.move (hR:Rel P ι B h w) (hp:ι id=some p) (hc:h.get id=some (.cells true c)) (ho:off<=c.length):
 ∃ι',ι' h.next=some ⟨p.b,p.o+off,p.n⟩/\ι.le ι'/\Rel P ι' B ((h.put id .dead).add (.cells true (c.drop off))) w/\Grow ι h w ι' ((h.put id .dead).add (.cells true (c.drop off))) w:=by
 have hnd:Live (h.get id):=by rw[hc];simp
 obtain⟨cur,T,fz,k1,k2,k3,k4,k5⟩:=hR.cellsAt hp hc
 obtain⟨r1,g1⟩:=hR.kill hp hnd
 have hn:ι h.next=none:=by
  cases hi:ι h.next with
  |none=>rfl
  |some q=>obtain⟨o,h1,_⟩:=hR.obj _ _ hi;exact adD (hR.fresh _ _ h1) (ad6 _)
 have hne:∀i q,ι i=some q->i≠h.next:=λi q hi e=>by rw[e,hn] at hi;cases hi
 let q:Pl:=⟨p.b,p.o+off,p.n⟩
 let ι':aZ:=λi=>if i.toNat=h.next.toNat then some q else ι i
 have hold:∀i,i≠h.next->ι' i=ι i:=λi hi=>adE λe=>hi (D4.toNat_inj e)
 have hnew:ι' h.next=some q:=adF rfl
 have hle:ι.le ι':=λi q hi=>by rw[hold i (hne i q hi)];exact hi
 have hcases:∀i u,ι' i=some u->(i=h.next/\u=q)∨(i≠h.next/\ι i=some u):=λi u hi=>by
  by_cases e:i=h.next
  ·subst e;rw[hnew] at hi;exact .inl ⟨rfl,(Option.some.inj hi).symm⟩
  ·rw[hold i e] at hi;exact .inr ⟨e,hi⟩
 have hnx:(h.put id .dead).next=h.next:=rfl
 have hdead:∀i,(h.put id .dead).get i≠some .dead->i≠id:=λi hi e=>hi (by rw[e];exact NH.get_put_same _ _ _)
 refine⟨ι',hnew,hle,⟨?_, ?_, ?_, ?_, ?_,hR.gl.mono hle⟩,⟨hle, ?_, ?_, ?_, ?_,aa2 _,rfl,rfl,rfl,λ_ _ _=>rfl⟩⟩
 ·intro i u hi
  rcases hcases i u hi with⟨rfl,rfl⟩|⟨h1,hi⟩
  ·refine⟨_,NH.get_add_same (h.put id .dead) _,cur,T,fz,k1,k2,k3, ?_, ?_⟩
   ·show p.o+off+(c.drop off).length<=p.n
    rw[ac6];omega
   ·intro j v hj
    rw[List.getElem?_drop] at hj
    obtain⟨v',a,b,d⟩:=k5 _ v hj
    exact⟨v',by show cur[p.o+off+j]? =some v';rw[Nat.add_assoc];exact a,b.mono hle,d⟩
  ·obtain⟨o,h2,h3⟩:=r1.obj i u hi
   exact⟨o,by rw[NH.get_add_ne (h.put id .dead) _ h1];exact h2,h3.mono hle rfl⟩
 ·intro i j u1 u2 hi hj hij d1 d2
  rcases hcases i u1 hi with⟨e1,e2⟩|⟨h1,hi'⟩
  ·rcases hcases j u2 hj with⟨e3,e4⟩|⟨h2,hj'⟩
   ·exact adD (e1.trans e3.symm) hij
   ·rw[NH.get_add_ne (h.put id .dead) _ h2] at d2
    have hji:=hdead j d2
    rw[NH.get_put_ne _ _ hji] at d2
    rw[e2]
    exact hR.inj id j p u2 hp hj' (Ne.symm hji) hnd d2
  ·rw[NH.get_add_ne (h.put id .dead) _ h1] at d1
   have hii:=hdead i d1.1
   rw[NH.get_put_ne _ _ hii] at d1
   rcases hcases j u2 hj with⟨e3,e4⟩|⟨h2,hj'⟩
   ·rw[e4]
    exact (hR.inj id i p u1 hp hi' (Ne.symm hii) hnd d1.1).symm
   ·rw[NH.get_add_ne (h.put id .dead) _ h2] at d2
    have hji:=hdead j d2
    rw[NH.get_put_ne _ _ hji] at d2
    exact hR.inj i j u1 u2 hi' hj' hij d1 d2
 ·intro i u hi d
  rcases hcases i u hi with⟨rfl,rfl⟩|⟨h1,hi⟩
  ·exact hR.base id p hp hnd
  ·rw[NH.get_add_ne (h.put id .dead) _ h1] at d;exact r1.base i u hi d
 ·intro i u hi
  rcases hcases i u hi with⟨rfl,rfl⟩|⟨h1,hi⟩
  ·exact hR.lt id p hp
  ·exact hR.lt i u hi
 ·intro i u hu
  show i.toNat<h.next.nxt.toNat
  rw[D4.toNat_nxt]
  by_cases e:i=h.next
  ·subst e;omega
  ·rw[NH.get_add_ne (h.put id .dead) _ e] at hu;have:=r1.fresh i u hu;rw[hnx] at this;omega
 ·show h.next.toNat<=h.next.nxt.toNat
  rw[D4.toNat_nxt];omega
 ·intro i u hi
  rcases hcases i u hi with⟨rfl,rfl⟩|⟨h1,hi⟩
  ·exact .inr (aa2 _)
  ·exact .inl hi
 ·intro i u hi d
  rcases hcases i u hi with⟨rfl,rfl⟩|⟨h1,hi⟩
  ·exact .inr ⟨id,p,hp,hnd,rfl⟩
  ·rw[NH.get_add_ne (h.put id .dead) _ h1] at d;exact g1.blk i u hi d
 ·intro i hi hlt
  have h1:i≠h.next:=λe=>by rw[e] at hlt;exact ad6 _ hlt
  rw[NH.get_add_ne (h.put id .dead) _ h1]
  exact NH.get_put_ne _ _ λe=>by rw[e,hp] at hi;cases hi
theorem re {n:Nat} {K:Nat->List NV->NR} (e:iq n h v K=r) (hr:r≠.fail) (hx:VR ι v x) (hR:Rel P ι B h w):
 ∃(m:Nat) (new:List NV) (vs:List Value),K m new=r/\VRL ι new vs/\(∀u∈vs,u.oneCell'=true)/\vs.length=m*n/\
  ((x= .slice none 0 0/\m=0/\vs= [])∨∃a c,x= .slice (some a) m c/\∀j u,vs[j]? =some u->w.cell? (a.add j)=some u):=by
 unfold iq at e
 cases hx with
 |nils=>exact⟨0, [], [],e,.nil,by simp,by simp,.inl ⟨rfl,rfl,rfl⟩⟩
 |slc id off len es kc p a cap hp hl hk hm he ha=>
  dsimp only at e
  obtain⟨e1,e2⟩:=aY e hr
  obtain rfl:=adK e1
  obtain⟨wr,c,h3,h4⟩:=jq e2 hr
  obtain⟨l,h5,h6⟩:=aR h4 hr
  rw[iS] at h5
  split at h5
  ·rename_i hle
   cases h5
   obtain⟨cur,T',fz,k1,_,k3,k4,k5⟩:=hR.cellsAt hp h3
   obtain⟨vs,m1,m2,m3,m4⟩:=jA (by omega) k5 off (len*es) hle
   refine⟨len,_,vs,h6,m2,m3,m1,.inr ⟨a,cap,rfl, ?_⟩⟩
   intro j u hu
   have hjlt:j<vs.length:=(List.getElem?_eq_some_iff.1 hu).1
   have hpos:0<len:=by
    rcases Nat.eq_zero_or_pos len with rfl|h
    ·rw[m1,Nat.zero_mul] at hjlt;omega
    ·exact h
   obtain⟨ha1,_⟩:=ha (by omega)
   subst ha1
   rw[Addr.add_mid,pA w p.b _ k1]
   exact m4 j u hu
  ·cases h5
 |_=>exact adD e.symm hr
theorem lM {n b:Nat} (e:room n b=true):n*b<=1099511627776/\n<=1099511627776:=by
 unfold room at e
 cases h1:Nat.ble (Nat.mul n b) 1099511627776 with
 |false=>rw[h1] at e;cases e
 |true=>
  rw[h1] at e
  rw[bO] at h1
  have h2:Nat.ble n 1099511627776=true:=e
  rw[bO] at h2
  exact⟨of_decide_eq_true h1,of_decide_eq_true h2⟩
theorem s9  {ty tx:Nat} (hT:P.underlying T=some (.slice e)) {n:Nat} (hn:b9 P e=some n) (hb:jO P e=some bytes) (hz:zeroOf P e=some z) (h0:1<=n)
 {s:NV} {q:Value} (hs:VR ι s x) {m:Nat} {new:List NV} (hv:VRL ι new vs) (h1:∀u∈vs,u.oneCell'=true) (hlen:vs.length=m*n)
 (hsrcA:∀k,k=n->Src P k tx q m vs w) (hR:Rel P ι B h w) (hB:B<=w.heap.size):
 bJ P ι B h w (ia n bytes h s m new) (a9 ((Builtin.append_ #[T,tx] ty #[x,q]).run P w)):=
 bh λhr=>by
  obtain⟨i,zv,i1,i2,i3,i4,i5⟩:=cK (ι:=ι) hz
  obtain⟨i',j1,j2⟩:=cF hn
  rw[i1] at j1;cases j1
  obtain⟨i',j1,j3⟩:=lk hb
  rw[i1] at j1;cases j1
  have hzl:zv.cells.size=n:=by have:=i4.length;simp at this;omega
  have hsrc:=hsrcA i.size j2
  have hlv:=hv.length
  unfold ia at *
  have grow:∀(old:List NV) (ovs:List Value) (base:Option Addr) (sLen sCap:Nat),VRL ι old ovs->(∀u∈ovs,u.oneCell'=true)->ovs.length=sLen*n->(Builtin.firstCells i.size sLen (.slice base sLen sCap)).run P w.drew= .ok ovs.toArray w.drew->
   sCap<sLen+m->(sLen+m)*bytes<=1099511627776->sLen+m<=1099511627776->∀(g:NH),Rel P ι B g w->∃v' w' ι',(Builtin.append_ #[T,tx] ty #[.slice base sLen sCap,q]).run P w= .ok v' w'/\VR ι' (.slc g.next 0 (sLen+m) n (sLen+m)) v'/\
    Rel P ι' B (g.add (.cells true (old++new))) w'/\Grow ι g w ι' (g.add (.cells true (old++new))) w':=by
   intro old ovs base sLen sCap ho ho1 hol hf hc hb1 hb2 g hRg
   have hfit:Builtin.nextslicecap (sLen+m) sCap*i.bytes<=281474976710656:=growslice_fits hc (by rw[j3];omega)
   have hrun:=run_append_grow_src (P:=P) w T tx ty e i zv hT i1 i2 base sLen sCap ovs hf q m vs hsrc hc (by omega) hfit
   have hge:=grownCap_ge w (sLen+m) sCap e
   have hcm:grownCap w (sLen+m) sCap e<=maxLen:=grownCap_le_maxLen w (sLen+m) sCap e (by simp only[maxLen];omega)
   have hal:=ho.app hv
   obtain⟨ι',m1,m2,m3,m4⟩:=fh (hRg.drew) hB true (old++new) ((ovs++vs).toArray++Builtin.zeroCells zv.cells (grownCap w (sLen+m) sCap e - (sLen+m))) e
    (by rw[hal.length];simp) (by
     refine hal.atA (λu hu=> ?_) λj u hu=> ?_
     ·rcases aa6.1 hu with hu|hu
      ·exact ho1 u hu
      ·exact h1 u hu
     ·rw[Array.getElem?_append_left (by rw[List.size_toArray];exact (List.getElem?_eq_some_iff.1 hu).1)]
      simpa using hu)
   refine⟨_,_,ι',hrun, ?_,m3,⟨m4.le,m4.next,m4.new,m4.blk,m4.keep,m4.size,m4.os,m4.tape,m4.output,m4.frame⟩⟩
   refine VR.slc _ 0 (sLen+m) n _ _ _ _ m1 hge hge hcm h0 λ_=>⟨rfl, ?_⟩
   simp only[Array.size_append,List.size_toArray,aa5,size_zeroCells,hzl,hol,hlen,←ad4]
   simp only[ad1]
   exact ae7 _ (by omega)
  cases hs with
  |nils=>
   cases m with
   |zero=>
    refine⟨_, ?_,.nils⟩
    have hvs:vs= []:=List.eq_nil_of_length_eq_zero (by simpa using hlen)
    subst hvs
    rcases hsrc.kind with⟨e',hk⟩|hk<;>simp[a9,Builtin.append_,run_underlying hT,run_underlying hk,Go.sizeOf,typeInfo,i1,hsrc.len,hsrc.cells]
   |succ m=>
    dsimp only at hr ⊢
    obtain⟨c1,c2⟩:=aY rfl hr
    rw[←c2,NH.new_eq]
    obtain⟨b1,b2⟩:=lM c1
    obtain⟨v',w',ι',q1,q2,q3,q4⟩:=grow [] [] none 0 0 .nil (by simp) (by simp) (by simp[Builtin.firstCells]) (by omega) (by rw[ad1];exact b1) (by rw[ad1];exact b2) h hR
    simp only[ad1] at q2
    exact⟨v',w',ι',.inl (by rw[a9,q1];rfl),q2,q3,q4⟩
  |slc id off len es kc p a cap hp hl hk hm he ha=>
   dsimp only at hr ⊢
   obtain⟨e1,e2⟩:=aY rfl hr
   rw[←e2];rw[←e2] at hr
   obtain rfl:=adK e1
   cases m with
   |zero=>
    refine⟨_, ?_,.slc id off len es kc p a cap hp hl hk hm he ha⟩
    have hvs:vs= []:=List.eq_nil_of_length_eq_zero (by simpa using hlen)
    subst hvs
    rcases hsrc.kind with⟨e',hk⟩|hk<;>simp[a9,Builtin.append_,run_underlying hT,run_underlying hk,Go.sizeOf,typeInfo,i1,hsrc.len,hsrc.cells,hl,storeCells]
   |succ m=>
    dsimp only at hr ⊢
    obtain⟨c,h3,h4⟩:=fg rfl hr
    rw[←h4];rw[←h4] at hr
    rw[aj] at hr ⊢
    cases hkc:Nat.ble (Nat.add len (m+1)) kc with
    |true=>
     rw[hkc] at hr
     have hroom:len+(m+1)<=kc:=by rw[bO] at hkc;exact of_decide_eq_true hkc
     have hroom:len+(m+1)<=cap:=ab9 hroom hk
     simp only[cond_true] at hr ⊢
     obtain⟨c',h5,h6⟩:=aR rfl hr
     rw[←h6,NH.set_eq]
     rw[ez] at h5
     split at h5
     ·rename_i hov
      cases h5
      have hov':off+len*es+new.length<=c.length:=hov
      obtain⟨cur,T',fz,k1,k2,k3,k4,k5⟩:=hR.cellsAt hp h3
      have hfz:=k2 rfl
      subst hfz
      have hnd:Live (h.get id):=by rw[h3];simp
      obtain⟨a1,a2⟩:=ha (by omega)
      subst a1
      have hfit:p.o+off+len*es+vs.length<=cur.size:=by
       rw[hlen,k3,Nat.add_assoc,←ad4]
       exact ab9 (Nat.add_le_add_left (ae7 _ hroom) _) a2
      have hst:=run_storeCells_at P p.b (p.o+off+len*es) T' vs 0 cur w k1 (by simpa using hfit) h1
      simp only[ad7] at hst
      have hrun:(Builtin.append_ #[T,tx] ty #[.slice (some ⟨p.b,p.o+off,none⟩) len cap,q]).run P w=
       .ok (.slice (some ⟨p.b,p.o+off,none⟩) (len+(m+1)) cap) (w.setRow p.b (cur.toList.take (p.o+off+len*es)++vs++cur.toList.drop (p.o+off+len*es+vs.length)).toArray):=by
       have hcells:=hsrc.cells
       rw[j2] at hcells
       rw[ab1] at hst
       rcases hsrc.kind with⟨e',hk⟩|hk<;>simp[Builtin.append_,run_underlying hT,run_underlying hk,Go.sizeOf,typeInfo,i1,j2,hsrc.len,hroom,hcells,Addr.add_mid,hst]
      obtain⟨r1,g1⟩:=hR.turn hp hnd (.cells true (c.take (off+len*es)++new++c.drop (off+len*es+new.length))) (w':=w.setRow p.b (cur.toList.take (p.o+off+len*es)++vs++cur.toList.drop (p.o+off+len*es+vs.length)).toArray) (by
       refine⟨_,T',(0,0),setRow_heap w p.b cur _ T' _ k1,λ_=>rfl, ?_, ?_, ?_⟩
       ·simp;omega
       ·simp;omega
       ·intro i v hi
        by_cases h2:i<off+len*es
        ·rw[ab1,List.getElem?_append_left (by simp;omega),List.getElem?_take,adF h2] at hi
         obtain⟨v',a,b,c'⟩:=k5 i v hi
         refine⟨v', ?_,b,c'⟩
         rw[←a,List.getElem?_toArray,ab1,List.getElem?_append_left (by simp;omega),List.getElem?_take,adF (by omega),Array.getElem?_toList]
        ·by_cases h2':i<off+len*es+new.length
         ·rw[List.getElem?_append_left (by simp;omega),List.getElem?_append_right (by simp;omega)] at hi
          obtain⟨v',a,b⟩:=hv.get hi
          have hlt:=(List.getElem?_eq_some_iff.1 hi).1
          have hmin:min (off+len*es) c.length=off+len*es:=ac5 (by omega)
          simp only[aa7,hmin] at hlt a
          refine⟨v', ?_,b,h1 _ (List.mem_of_getElem? a)⟩
          rw[←a,List.getElem?_toArray,List.getElem?_append_left (by simp;omega),List.getElem?_append_right (by simp;omega)]
          congr 1
          simp;omega
         ·have hmin:min (off+len*es) c.length=off+len*es:=ac5 (by omega)
          rw[List.getElem?_append_right (by simp;omega),List.getElem?_drop] at hi
          obtain⟨v',a,b,c'⟩:=k5 _ v hi
          refine⟨v', ?_,b,c'⟩
          rw[←a,List.getElem?_toArray,List.getElem?_append_right (by simp;omega),List.getElem?_drop,Array.getElem?_toList]
          congr 1
          simp only[aa5,aa7,hmin,af2]
          have:min (p.o+off+len*es) cur.size=p.o+off+len*es:=ac5 (by omega)
          omega)
       (setRow_size _ _ _) rfl rfl rfl (λb hb=>setRow_other w p.b b _ hb)
      exact⟨_,_,ι,.inl (by rw[a9,hrun];rfl),.slc id off (len+(m+1)) es kc p _ cap hp hroom hk hm he (λ_=>⟨rfl,a2⟩),r1,g1⟩
     ·cases h5
    |false=>
    rw[hkc] at hr
    simp only[cond_false] at hr ⊢
    obtain⟨c',h5,h6⟩:=aR rfl hr
    rw[←h6];rw[←h6] at hr
    obtain⟨old,h7,h8⟩:=aR rfl hr
    rw[←h8];rw[←h8] at hr
    obtain⟨c1,c2⟩:=aY rfl hr
    rw[←c2,eP,NH.set_eq,NH.new_eq]
    rw[fR] at h5
    split at h5
    ·rename_i hoff
     cases h5
     rw[jH] at h7
     split at h7
     ·rename_i hlc
      cases h7
      rw[ac6] at hlc
      have hlc':off+len*es<=c.length:=by have:Nat.mul len es=len*es:=rfl;omega
      obtain⟨b1,b2⟩:=lM c1
      obtain⟨cur,T',fz,k1,k2,k3,k4,k5⟩:=hR.cellsAt hp h3
      have hfz:=k2 rfl
      subst hfz
      obtain⟨ovs,o1,o2,o3,o4⟩:=jA (by omega) k5 off (len*es) hlc'
      have hnd:Live (h.get id):=by rw[h3];simp
      by_cases hroom:len+(m+1)<=cap
      ·obtain⟨a1,a2⟩:=ha (by omega)
       subst a1
       have hfit:p.o+off+len*es+vs.length<=cur.size:=by
        rw[hlen,k3,Nat.add_assoc,←ad4]
        exact ab9 (Nat.add_le_add_left (ae7 _ hroom) _) a2
       have hst:=run_storeCells_at P p.b (p.o+off+len*es) T' vs 0 cur w k1 (by simpa using hfit) h1
       simp only[ad7] at hst
       have hrun:(Builtin.append_ #[T,tx] ty #[.slice (some ⟨p.b,p.o+off,none⟩) len cap,q]).run P w=
        .ok (.slice (some ⟨p.b,p.o+off,none⟩) (len+(m+1)) cap) (w.setRow p.b (cur.toList.take (p.o+off+len*es)++vs++cur.toList.drop (p.o+off+len*es+vs.length)).toArray):=by
        have hcells:=hsrc.cells
        rw[j2] at hcells
        rw[ab1] at hst
        rcases hsrc.kind with⟨e',hk⟩|hk<;>simp[Builtin.append_,run_underlying hT,run_underlying hk,Go.sizeOf,typeInfo,i1,j2,hsrc.len,hroom,hcells,Addr.add_mid,hst]
       obtain⟨r1,g1⟩:=hR.turn hp hnd (.cells true (c.take (off+len*es)++new)) (w':=w.setRow p.b (cur.toList.take (p.o+off+len*es)++vs++cur.toList.drop (p.o+off+len*es+vs.length)).toArray) (by
        refine⟨_,T',(0,0),setRow_heap w p.b cur _ T' _ k1,λ_=>rfl, ?_, ?_, ?_⟩
        ·simp;omega
        ·simp;omega
        ·intro i v hi
         by_cases h2:i<off+len*es
         ·rw[List.getElem?_append_left (by simp;omega),List.getElem?_take,adF h2] at hi
          obtain⟨v',a,b,c'⟩:=k5 i v hi
          refine⟨v', ?_,b,c'⟩
          rw[←a,List.getElem?_toArray,ab1,List.getElem?_append_left (by simp;omega),List.getElem?_take,adF (by omega),Array.getElem?_toList]
         ·rw[List.getElem?_append_right (by simp;omega)] at hi
          obtain⟨v',a,b⟩:=hv.get hi
          have hlt:=(List.getElem?_eq_some_iff.1 hi).1
          simp only[aa7,ac5 hlc'] at hlt a
          refine⟨v', ?_,b,h1 _ (List.mem_of_getElem? a)⟩
          rw[←a,List.getElem?_toArray,List.getElem?_append_left (by simp;omega),List.getElem?_append_right (by simp;omega)]
          congr 1
          simp;omega)
        (setRow_size _ _ _) rfl rfl rfl (λb hb=>setRow_other w p.b b _ hb)
       obtain⟨ι',m1,m2,m3,m4⟩:=r1.move hp (NH.get_put_same _ _ _) (off:=off) (by simp;omega)
       rw[NH.put_put] at m3 m4
       have hcut:(c.take (off+len*es)++new).drop off=(c.drop off).take (len*es)++new:=by
        rw[List.drop_append_of_le_length (by simp;omega),List.drop_take]
        congr 2;omega
       rw[hcut] at m3 m4
       refine⟨_,_,ι',.inl (by rw[a9,hrun];rfl), ?_,m3,g1.trans m4⟩
       exact VR.slc _ 0 (len+(m+1)) es _ ⟨p.b,p.o+off,p.n⟩ _ cap m1 hroom hroom hm he λ_=>⟨rfl,a2⟩
      ·have hfirst:(Builtin.firstCells i.size len (.slice (some a) len cap)).run P w.drew= .ok ovs.toArray w.drew:=by
        refine run_firstCells_some w.drew i.size len a len cap ovs (by rw[o1,j2]) ?_
        intro j u hu
        have hjlt:j<ovs.length:=(List.getElem?_eq_some_iff.1 hu).1
        have hpos:0<len:=by
         rcases Nat.eq_zero_or_pos len with rfl|h
         ·rw[o1,Nat.zero_mul] at hjlt;omega
         ·exact h
        obtain⟨ha1,_⟩:=ha (by omega)
        subst ha1
        rw[Addr.add_mid]
        show w.cell? _=_
        rw[pA w p.b _ k1]
        exact o4 j u hu
       obtain⟨r1,g1⟩:=hR.kill hp hnd
       obtain⟨v',w',ι',q1,q2,q3,q4⟩:=grow _ ovs (some a) len cap o2 o3 o1 hfirst (by omega) b1 b2 (h.put id .dead) r1
       exact⟨v',w',ι',.inl (by rw[a9,q1];rfl),q2,q3,g1.trans q4⟩
     ·cases h7
    ·cases h5
  |_=>exact adD rfl hr
end
open Go
section
variable {P:Program} {ι:aZ} {B:Nat} {h:NH} {w:World} {t:Tm}
theorem vR  {tx e' n:Nat} (hT:P.underlying T=some (.slice e)) (hX:P.underlying tx=some (.slice e')) (hn:b9 P e=some n) (hb:jO P e=some bytes) (hz:zeroOf P e=some z) (h0:1<=n)
 (ty T':Nat) (hx:OV ι t y x) (hu:OV ι t q u) (hR:Rel P ι B h w) (hB:B<=w.heap.size):
 bJ P ι B h w (rN n bytes T' y q t h) (a9 ((Builtin.append_ #[T,tx] ty #[x,u]).run P w)):=
 bh λhr=>by
  unfold rN at *
  obtain⟨s,h1,h2⟩:=aT rfl hr
  rw[←h2];rw[←h2] at hr
  obtain⟨v,h3,h4⟩:=aT rfl hr
  rw[←h4];rw[←h4] at hr
  obtain⟨m,new,vs,k1,k2,k3,k4,k5⟩:=re rfl hr (hu v h3) hR
  rw[←k1]
  refine s9 hT hn hb hz h0 (hx s h1) k2 k3 k4 (λk hk=> ?_) hR hB
  subst hk
  rcases k5 with⟨rfl,rfl,rfl⟩|⟨a,c,rfl,k6⟩
  ·exact Src.ofNil w hX 0
  ·exact Src.ofSlice w hX a m c vs k4 k6 k3
theorem jJ (b:List Nat) (K:List NV->NR):DA b K=K (b.map λx=> .int .u8 (.lit (.ofNat x))):=by
 induction b generalizing K with
 |nil=>rfl
 |cons a b ih=>exact ih _
theorem tf (s:ByteArray):VRL ι ((s.data.toList.map UInt8.toNat).map λx=>NV.int .u8 (.lit (.ofNat x))) (byteCells s):=by
 unfold byteCells
 generalize s.data.toList=l
 induction l with
 |nil=>exact .nil
 |cons a l ih=>exact .cons _ _ _ _ (.int _ _) ih
theorem mL  (hS:P.underlying S=some .string) (hT:P.underlying T=some (.slice e)) (he:P.underlying e=some (.int .u8)) (T':Nat) (hx:OV ι t y x) (hR:Rel P ι B h w) (hB:B<=w.heap.size):
 bJ P ι B h w (jr T' y t h) (a9 ((convert S T x).run P w)):=
 bh λhr=>by
  unfold jr at *
  obtain⟨v,h1,h2⟩:=aT rfl hr
  rw[←h2];rw[←h2] at hr
  have hv:=hx v h1
  cases hv with
  |str l s hs=>
   subst hs
   dsimp only at hr ⊢
   rw[jJ,bS] at hr ⊢
   obtain⟨hlen,hr'⟩:=aY rfl hr
   rw[←hr',NH.new_eq]
   rw[bO] at hlen
   have hlen:=of_decide_eq_true hlen
   rw[aa0,cp] at hlen ⊢
   have hge:=grownCap_ge w s.size 0 e
   have hcm:grownCap w s.size 0 e<=maxLen:=grownCap_le_maxLen w s.size 0 e (by simp only[maxLen];omega)
   have hrun:=run_bytes_of_string (P:=P) w S T e s hS hT he
   have hbs:(bytesRow s (grownCap w s.size 0 e)).size=grownCap w s.size 0 e:=by
    have:s.data.size=s.size:=rfl
    simp[bytesRow,this];omega
   have hcells:∀(i:Nat) (v:NV),((s.data.toList.map UInt8.toNat).map λx=>NV.int .u8 (.lit (.ofNat x)))[i]? =some v->∃v':Value,(bytesRow s (grownCap w s.size 0 e))[0+i]? =some v'/\VR ι v v'/\v'.oneCell'=true:=by
    intro i v hi
    obtain⟨v',a,b⟩:=(tf (ι:=ι) s).get hi
    refine⟨v', ?_,b, ?_⟩
    ·have hlt:i<s.data.size:=by
      have:=(List.getElem?_eq_some_iff.1 hi).1
      simpa using this
     rw[ad1,bytesRow_at s _ i hlt]
     rw[←a]
     unfold byteCells
     rw[List.getElem?_map,List.getElem?_eq_getElem (by simpa using hlt)]
     simp
    ·obtain⟨_,_,rfl⟩:=ab3.1 (List.mem_of_getElem? a)
     rfl
   obtain⟨ι',m1,m2,m3,m4⟩:=hR.drew.alloc (show B<=w.drew.heap.size from hB) (.cells false ((s.data.toList.map UInt8.toNat).map λx=>NV.int .u8 (.lit (.ofNat x)))) (.cells (bytesRow s (grownCap w s.size 0 e)) e ((bytesRow s (grownCap w s.size 0 e)).size,(bytesRow s (grownCap w s.size 0 e)).size+1))
    ⟨w.heap.size,0,(bytesRow s (grownCap w s.size 0 e)).size⟩ rfl λι' hle=>
     ⟨_,e,_,eF w.drew _,(λhh=>by cases hh),rfl,(by show 0+_<=(bytesRow s (grownCap w s.size 0 e)).size;rw[hbs,aa0,aa0,cp,ad1];exact hge),λi v hi=>by
      obtain⟨v',a,b,c⟩:=hcells i v hi
      exact⟨v',a,b.mono hle,c⟩⟩
   refine⟨_,_,ι',.inl (by rw[a9,hrun];rfl), ?_,m3,⟨m4.le,m4.next,m4.new,m4.blk,m4.keep,m4.size,m4.os,m4.tape,m4.output,m4.frame⟩⟩
   exact VR.slc _ 0 s.size 1 _ _ _ _ m1 hge hge hcm (aa2 _) λ_=>⟨rfl,by rw[hbs];simp⟩
  |_=>exact adD rfl hr
theorem sS  {s:List Nat} (e:eN l=some s) (hv:VRL ι l vs):∃bs:List UInt8,bs.map UInt8.toNat=s/\vs=bs.map λb=> .int .u8 (b.toNat:Int):=by
 induction l generalizing s vs with
 |nil=>cases hv;cases e;exact⟨[],rfl,rfl⟩
 |cons a l ih=>
  cases hv with
  |cons _ v' _ l' ha hl=>
   have e':RJ a (eN l)=some s:=e
   clear e
   unfold RJ at e'
   split at e'
   ·rename_i x t ht
    cases ha
    cases hc:Nat.ble x 255 with
    |false=>rw[hc] at e';cases e'
    |true=>
     rw[hc] at e';cases e'
     rw[bO] at hc
     have hx:=of_decide_eq_true hc
     obtain⟨bs,h1,h2⟩:=ih ht hl
     have hb:(UInt8.ofNat x).toNat=x:=by simp;omega
     exact⟨UInt8.ofNat x::bs,by rw[ac1,hb,h1],by rw[ac1,hb,h2];rfl⟩
   ·cases e'
theorem mI  (hS:P.underlying S=some (.slice e)) (hT:P.underlying T=some .string) (he:P.underlying e=some (.int .u8)) (hx:OV ι t y x) (hR:Rel P ι B h w):
 bJ P ι B h w (iW y t h) (a9 ((convert S T x).run P w)):=
 bh λhr=>by
  unfold iW at *
  obtain⟨v,h1,h2⟩:=aT rfl hr
  rw[←h2];rw[←h2] at hr
  obtain⟨m,new,vs,k1,k2,k3,k4,k5⟩:=re rfl hr (hx v h1) hR
  rw[←k1];rw[←k1] at hr
  obtain⟨s,h5,h6⟩:=aR rfl hr
  rw[←h6]
  obtain⟨bs,b1,b2⟩:=sS h5 k2
  refine⟨.string ⟨bs.toArray⟩, ?_,.str _ _ (by simpa using b1)⟩
  rcases k5 with⟨rfl,rfl,rfl⟩|⟨a,c,rfl,k6⟩
  ·have:bs= []:=by simpa using b2.symm
   subst this
   simp[a9,convert,run_underlying hS,run_underlying hT,run_underlying he,Conv.bytesToString]
   rfl
  ·have hm:m=bs.length:=by rw[Nat.mul_one] at k4;rw[←k4,b2,aa0]
   subst hm
   rw[a9,run_convert_bytes_back w S T e a c bs hS he hT λj hj=>k6 j _ (by rw[b2,List.getElem?_map,List.getElem?_eq_getElem hj];rfl)]
   rfl
theorem Qj  {T:TypeId} {fz:Nat×Nat} (k1:w.heap[p.b]? =some (.cells cur T fz)):w.shape? p.b=some (T,cur.size):=by
 unfold World.shape?;rw[k1]
theorem DN {a:Addr} {n:Nat} {T:TypeId} {fz:Nat×Nat} (k1:w.heap[a.block]? =some (.cells cur T fz)):
 (∃fz',(w.freeze a (n+1)).heap[a.block]? =some (.cells cur T fz'))/\(∀b,b≠a.block->(w.freeze a (n+1)).heap[b]? =w.heap[b]?)/\(w.freeze a (n+1)).heap.size=w.heap.size/\
  (w.freeze a (n+1)).os=w.os/\(w.freeze a (n+1)).tape=w.tape/\(w.freeze a (n+1)).output=w.output:=by
 have hlt:=(Array.getElem?_eq_some_iff.1 k1).1
 unfold World.freeze
 rw[adE (by omega)]
 obtain⟨lo,hi⟩:=fz
 refine⟨⟨(if lo==hi then (a.off,a.off+(n+1)) else (min lo a.off,max hi (a.off+(n+1)))), ?_⟩,λb hb=> ?_,by simp,rfl,rfl,rfl⟩
 ·show (w.heap.modify a.block _)[a.block]? =_
  rw[Array.getElem?_modify,adF rfl,k1]
  rfl
 ·show (w.heap.modify a.block _)[b]? =_
  rw[Array.getElem?_modify,adE (Ne.symm hb)]
theorem sD  (hS:P.underlying S=some (.slice e)) (he:P.underlying e=some (.int .u8)) (hx:OV ι t y x) (hR:Rel P ι B h w):
 bJ P ι B h w (nM y t h) (a9 ((convert S S x).run P w)):=
 bh λhr=>by
  unfold nM at *
  obtain⟨v,h1,h2⟩:=aT rfl hr
  rw[←h2];rw[←h2] at hr
  have hv:=hx v h1
  cases hv with
  |slc id off len es kc p a cap hp hl hk hm hes ha=>
   dsimp only at hr ⊢
   obtain⟨c1,c2⟩:=aY rfl hr
   rw[←c2];rw[←c2] at hr
   rw[bO] at c1
   have hpos:=of_decide_eq_true c1
   obtain⟨c,h3,h4⟩:=fg rfl hr
   rw[←h4,NH.set_eq]
   obtain⟨a1,a2⟩:=ha (by omega)
   subst a1
   obtain⟨cur,T',fz,k1,k2,k3,k4,k5⟩:=hR.cellsAt hp h3
   obtain⟨⟨fz',f1⟩,f2,f3,f4,f5,f6⟩:=DN (w:=w) (a:=⟨p.b,cur.size,none⟩) (n:=0) k1
   obtain⟨r1,g1⟩:=hR.turn hp (by rw[h3];simp) (.cells false c) (w':=w.freeze ⟨p.b,cur.size,none⟩ 1) ⟨cur,T',fz',f1,(λhh=>by cases hh),k3,k4,k5⟩ f3 f4 f5 f6 f2
   refine⟨_,_,ι,.inl ?_,.slc id off len es kc p _ cap hp hl hk hm hes ha,r1,g1⟩
   simp[a9,convert,run_underlying hS,run_underlying he,markStringish,Qj k1,freeze,Sem.run]
  |_=>exact adD rfl hr
theorem sG  {n:Nat} (hT:P.underlying T=some (.slice e)) (hn:b9 P e=some n) (hb:jO P e=some bytes) (hz:zeroOf P e=some z) (h0:1<=n) (T':Nat) (hx:OV ι t y x) (hu:OV ι t q u) (hR:Rel P ι B h w) (hB:B<=w.heap.size):bJ P ι B h w (nC z n bytes T' y q t h) (a9 ((Instr.makeSlice T x u).run P w)):=
 bh λhr=>by
  unfold nC at *
  obtain⟨k1,l,h1,h2⟩:=ee rfl hr
  rw[←h2];rw[←h2] at hr
  obtain⟨k2,c,h3,h4⟩:=ee rfl hr
  rw[←h4];rw[←h4] at hr
  obtain⟨c1,c2⟩:=aY rfl hr
  rw[←c2];rw[←c2] at hr
  obtain⟨c3,c4⟩:=aY rfl hr
  rw[←c4,fG,NH.new_eq]
  rw[bO] at c1
  have hlc:=of_decide_eq_true c1
  obtain⟨b1,b2⟩:=lM c3
  obtain⟨i,zv,i1,i2,i3,i4,i5⟩:=cK (ι:=ι) hz
  obtain⟨i',j1,j2⟩:=cF hn
  rw[i1] at j1;cases j1
  obtain⟨i',j1,j3⟩:=lk hb
  rw[i1] at j1;cases j1
  have hzl:zv.cells.size=n:=by have:=i4.length;simp at this;omega
  have hvx:=hx _ h1
  have hvu:=hu _ h3
  cases hvx;cases hvu
  have hby:(i.bytes:Int)*(c:Int)<=281474976710656:=by
   have:((i.bytes*c:Nat):Int)<=281474976710656:=by rw[j3,Nat.mul_comm];omega
   rwa [Int.natCast_mul] at this
  have hrun:=run_make (P:=P) w T e i zv hT i1 i2 k1 k2 (Int.ofNat l) (Int.ofNat c) (by simp) (by simp;exact hlc) hby (by simp;omega)
  have hmade:(madeCells zv.cells (c*n)).toList=Nm.rep c zv.cells.toList:=by rw[←hzl];exact j7 zv.cells c
  obtain⟨q1,q2⟩:=jT i4 i5 c
  obtain⟨ι',m1,m2,m3,m4⟩:=fh hR hB true (Nm.rep c z) (madeCells zv.cells (c*n)) e (by rw[q1.length,←hmade];simp) (q1.atA q2 λj u hu=>by rw[←hmade] at hu;simpa using hu)
  refine⟨_,_,ι',.inl (by rw[a9,hrun];rfl), ?_,by rw[j2];exact m3,by rw[j2];exact m4⟩
  exact VR.slc _ 0 l n _ _ _ c m1 hlc (aa2 _) (by simp only[maxLen];omega) h0 λ_=>⟨rfl,by simp[size_madeCells]⟩
theorem zO  {K:NH->NR} (e:storeAt h id off cs K=r) (hr:r≠.fail):
 ∃c,h.get id=some (.cells true c)/\off+cs.length<=c.length/\K (h.put id (.cells true (c.take off++cs++c.drop (off+cs.length))))=r:=by
 unfold storeAt at e
 obtain⟨c,h1,h2⟩:=fg e hr
 obtain⟨c',h3,h4⟩:=aR h2 hr
 rw[ez] at h3
 split at h3
 ·rename_i hle
  cases h3
  rw[NH.set_eq] at h4
  exact⟨c,h1,hle,h4⟩
 ·cases h3
theorem si  (hT:P.underlying T=some (.slice e)) (hz:zeroOf P e=some z) (ts:List TypeId) (ty:Nat) (hx:OV ι t y x) (hR:Rel P ι B h w):
 bJ P ι B h w (kZ z y t h) (a9 ((Builtin.clear_ (T::ts).toArray ty #[x]).run P w)):=
 bh λhr=>by
  unfold kZ at *
  obtain⟨v,h1,h2⟩:=aT rfl hr
  rw[←h2];rw[←h2] at hr
  obtain⟨i,zv,i1,i2,i3,i4,i5⟩:=cK (ι:=ι) hz
  have hv:=hx v h1
  cases hv with
  |nils=>exact⟨undef,by simp[a9,Builtin.clear_,run_underlying hT];rfl,fO⟩
  |slc id off len es kc p a cap hp hl hk hm hes ha=>
   cases len with
   |zero=>exact⟨undef,by simp[a9,Builtin.clear_,run_underlying hT];rfl,fO⟩
   |succ len=>
    dsimp only at hr ⊢
    rw[fG] at hr ⊢
    obtain⟨c,h7,h8,h9⟩:=zO rfl hr
    rw[←h9]
    obtain⟨a1,a2⟩:=ha (by omega)
    subst a1
    obtain⟨q1,q2⟩:=jT i4 i5 (len+1)
    obtain⟨w',s1,s2,s3⟩:=nT hR hp h7 q1 q2 h8
    have hzc:(Builtin.zeroCells zv.cells (len+1)).toList=Nm.rep (len+1) zv.cells.toList:=j7 zv.cells (len+1)
    refine⟨_,w',ι,.inl ?_,fO,s2,s3⟩
    simp[a9,Builtin.clear_,run_underlying hT,fT i1 i2,hzc,s1]
    rfl
  |_=>exact adD rfl hr
theorem On {l:List NOpd} (e:Fz t l .fail K=r) (hr:r≠.fail):∃vs,(∀xs:List Value,VC ι t l xs->VRL ι vs xs)/\K vs=r:=by
 obtain⟨vs,h1,h2⟩:=uK (ι:=ι) e hr
 exact⟨vs,λxs hx=>h1 xs hx.1 hx.2,h2⟩
theorem Fu {f:NOpd} {l:List NOpd} (hf:OV ι t f x) (hx:VC ι t l xs):
 bJ P ι B h w (ET f l t h) ((do let d ←Deferred.ofValue x xs.toArray;invoke d.target d.args:Sem Next).run P w):=
 bh λhr=>by
  unfold ET at *
  obtain⟨v,h1,h2⟩:=aT rfl hr
  rw[←h2];rw[←h2] at hr
  obtain⟨vs,h3,h4⟩:=On (ι:=ι) rfl hr
  rw[←h4];rw[←h4] at hr
  have hvs:=h3 xs hx
  have hv:=hf v h1
  cases hv with
  |fn f cap cap' hc=>
   dsimp only
   rw[eP]
   exact⟨xs++cap',hvs.app hc,by simp[Deferred.ofValue,invoke]⟩
  |yld l p hp=>exact⟨xs,p,hp,hvs,by simp[Deferred.ofValue,invoke]⟩
  |_=>exact adD rfl hr
theorem zW {f:NOpd} (hf:OV ι t f x):bJ P ι B h w (uA f t h) ((do pure (Next.defer (←Deferred.ofValue x #[])):Sem Next).run P w):=
 bh λhr=>by
  unfold uA at *
  obtain⟨v,h1,h2⟩:=aT rfl hr
  rw[←h2];rw[←h2] at hr
  have hv:=hf v h1
  cases hv with
  |fn f cap cap' hc=>exact⟨cap',hc,by simp[Deferred.ofValue]⟩
  |_=>exact adD rfl hr
theorem yb  (hx:OV ι t y x):bJ P ι B h w (uY y t h) (a9 ((Instr.panic x).run P w)):=
 bh λhr=>by
  unfold uY at *
  obtain⟨v,h1,h2⟩:=aT rfl hr
  rw[←h2];rw[←h2] at hr
  have hv:=hx v h1
  cases hv with
  |ifc T v v' hv=>exact⟨_,.ifc _ _ _ hv,rfl⟩
  |_=>exact adD rfl hr
end
open Go
theorem bW  (s:Sem Value):(do pure (Next.value (←s)):Sem Next).run P w=a9 (s.run P w):=by
 simp only[a9,Sem.run_bind,Sem.run_pure]
theorem PW  (s:Sem Unit):(do s;pure Next.skip:Sem Next).run P w=EH (s.run P w):=by
 simp only[EH,Sem.run_bind,Sem.run_pure]
section
variable {P:Program} {ι:aZ} {B:Nat} {h:NH} {w:World} {t:Tm} {e:Operand->Value}
def OE (ι:aZ) (t:Tm) (e:Operand->Value):Prop:=∀x y,aH x=some y->OV ι t y (e x)
theorem kS (hO:OE ι t e):∀{l:List Operand} {l':List NOpd},eT l=some l'->VC ι t l' (l.map e):=by
 intro l
 induction l with
 |nil=>intro l' hc;cases hc;exact⟨rfl,by simp⟩
 |cons x l ih=>
  intro l' hc
  have hc':(match aH x,eT l with|some x,some l=>some (x::l)|_,_=>none)=some l':=hc
  split at hc'
  ·rename_i y m h1 h2
   cases hc'
   obtain⟨a,b⟩:=ih h2
   refine⟨by simp[a],λi y' x' hi hx=> ?_⟩
   cases i with
   |zero=>simp at hi hx;subst hi hx;exact hO _ _ h1
   |succ i=>exact b i y' x' (by simpa using hi) (by simpa using hx)
  ·cases hc'
theorem ie (hO:OE ι t e):∀{l:List (Nat×Operand)} {ps:List (Nat×Nat×NOpd)},eK place l=some ps->rf ι t place ps (l.map λp=>(p.1,e p.2)):=by
 intro l
 induction l with
 |nil=>intro ps hc;cases hc;exact trivial
 |cons x l ih=>
  intro ps hc
  have hc':(match place x.1,aH x.2,eK place l with
   |some p,some x,some l=>aG p.1 λo=>aG p.2 λn=>some ((o,n,x)::l)
   |_,_,_=>none)=some ps:=hc
  split at hc'
  ·rename_i p y m h1 h2 h3
   simp only[aj] at hc'
   cases hc'
   exact⟨h1,hO _ _ h2,ih h3⟩
  ·cases hc'
theorem nd  {K:IntKind->Option NOp} (hc:HV k K=some n):K k=some n:=by rw[zk] at hc;exact hc
theorem ow  {s:Nat} (hc:pj P s f=some fd):∃fs,P.underlying s=some (.struct fs)/\fs[f]? =some fd:=by
 unfold pj at hc
 split at hc
 ·rename_i fs hs;exact⟨fs,hs,hc⟩
 ·cases hc
theorem kv (hO:OE ι t e) {x:Option Operand} {y:Option NOpd} (hc:pw x=some y):BV ι t y (x.map e):=by
 cases x with
 |none=>cases hc;trivial
 |some x=>
  have hc':(match aH x with|some x=>some (some x)|none=>none)=some y:=hc
  split at hc'
  ·rename_i z hz;cases hc';exact hO _ _ hz
  ·cases hc'
theorem aP  {x:Option α} {r:α} (hc:cond b x none=some r):b=true/\x=some r:=by
 cases b with
 |true=>exact⟨rfl,hc⟩
 |false=>cases hc
theorem Gm  {dst:Nat} {x:Operand} (hc:iT P src dst y=some n) (hx:OV ι t y (e x)) (hR:Rel P ι B h w) (hB:B<=w.heap.size):
 bJ P ι B h w (ai n t h) (a9 ((convert src dst (e x)).run P w)):=by
 unfold iT at hc
 split at hc
 ·rename_i k hs hd
  have hc:=nd hc;cases hc
  exact Cp hs hd hx
 ·rename_i hs hd
  cases hc
 ·rename_i e' hs hd
  split at hc
  ·rename_i he
   rw[aj] at hc;cases hc
   exact mL hs hd he e' hx hR hB
  ·cases hc
 ·rename_i e' hs hd
  split at hc
  ·rename_i he
   cases hc
   exact mI hs hd he hx hR
  ·cases hc
 ·rename_i e' e'' hs hd
  split at hc
  ·rename_i he
   obtain⟨c1,c2⟩:=aP hc
   cases c2
   obtain rfl:=adK c1
   exact sD hd he hx hR
  ·cases hc
 ·cases hc
theorem sE {b:Builtin} {args:Array Operand} {ts:Array TypeId} {l:List NOpd} (hl:eT args.toList=some l) (hc:di P b l ts.toList=some n) (hO:OE ι t e) (hR:Rel P ι B h w) (hB:B<=w.heap.size) (ty:Nat) (cs:Array Bool):
 bJ P ι B h w (ai n t h) ((builtin b ts ty cs (args.map e)).run P w):=by
 have hx0:=kS hO hl
 have ea:args.map e=(args.toList.map e).toArray:=by apply Array.ext';simp
 have et:ts=ts.toList.toArray:=Array.toArray_toList.symm
 unfold di at hc
 rw[ea,et]
 generalize args.toList.map e=xs at *
 generalize ts.toList=us at *
 have one:∀{y:NOpd} {xs:List Value},VC ι t [y] xs->∃x,xs= [x]/\OV ι t y x:=fun {y xs} hx=>by
  obtain⟨h1,h2⟩:=hx
  match xs,h1 with| [x],_=>exact⟨x,rfl,h2 0 y x rfl rfl⟩
 have two:∀{y z:NOpd} {xs:List Value},VC ι t [y,z] xs->∃x u,xs= [x,u]/\OV ι t y x/\OV ι t z u:=fun {y z xs} hx=>by
  obtain⟨h1,h2⟩:=hx
  match xs,h1 with| [x,u],_=>exact⟨x,u,rfl,h2 0 y x rfl rfl,h2 1 z u rfl rfl⟩
 split at hc
 ·obtain⟨x,rfl,hx⟩:=one hx0
  show bJ P ι B h w (ai n t h) ((do pure (Next.value (←Builtin.len_ _ ty #[x])):Sem Next).run P w)
  rw[bW]
  split at hc
  ·rename_i hT;cases hc;exact vd hT hx
  ·rename_i hT;cases hc;exact wd hT hx
  ·rename_i hT;cases hc
  ·rename_i hT;cases hc
  ·rename_i hT
   split at hc
   ·rename_i hA;cases hc
   ·cases hc
  ·cases hc
 ·cases hc
  show bJ P ι B h w _ ((do pure (Next.value (←Builtin.min_ _ ty _)):Sem Next).run P w)
  rw[bW]
  exact mE (mx:=false) hx0 us.toArray ty
 ·cases hc
  show bJ P ι B h w _ ((do pure (Next.value (←Builtin.max_ _ ty _)):Sem Next).run P w)
  rw[bW]
  exact mE (mx:=true) hx0 us.toArray ty
 ·obtain⟨x,u,rfl,hx,hu⟩:=two hx0
  show bJ P ι B h w (ai n t h) ((do pure (Next.value (←Builtin.append_ _ ty #[x,u])):Sem Next).run P w)
  rw[bW]
  split at hc
  ·rename_i hT hX
   split at hc
   ·rename_i hn hb hz
    obtain⟨c1,c2⟩:=aP hc
    rw[aj] at c2;cases c2
    rw[bO] at c1
    exact vR hT hX hn hb hz (of_decide_eq_true c1) ty 0 hx hu hR hB
   ·cases hc
  ·rename_i hT hX
   split at hc
   ·rename_i hn hb hz
    obtain⟨c1,c2⟩:=aP hc
    cases c2
   ·cases hc
  ·cases hc
 ·obtain⟨x,u,rfl,hx,hu⟩:=two hx0
  show bJ P ι B h w (ai n t h) ((do pure (Next.value (←Builtin.copy_ _ ty #[x,u])):Sem Next).run P w)
  rw[bW]
  split at hc
  ·rename_i hT hX
   split at hc
   ·rename_i hn
    cases hc
   ·cases hc
  ·cases hc
 ·obtain⟨x,u,rfl,hx,hu⟩:=two hx0
  show bJ P ι B h w (ai n t h) ((do pure (Next.value (←Builtin.delete_ _ ty #[x,u])):Sem Next).run P w)
  rw[bW]
  split at hc
  ·rename_i hT
   split at hc
   ·rename_i hs
    cases hc
   ·cases hc
  ·cases hc
 ·obtain⟨x,rfl,hx⟩:=one hx0
  show bJ P ι B h w (ai n t h) ((do pure (Next.value (←Builtin.clear_ _ ty #[x])):Sem Next).run P w)
  rw[bW]
  split at hc
  ·rename_i hT
   split at hc
   ·rename_i hz
    cases hc
    exact si hT hz [] ty hx hR
   ·cases hc
  ·cases hc
 ·cases hc
  rfl
 ·cases hc
theorem FT  {c:BC} (hc:Gq d=some c):c.of d/\c≠.ifc/\∀ts,c≠.ifc2 ts:=by
 unfold Gq at hc
 split at hc<;>first|(cases hc;constructor<;>simp[BC.of])|cases hc
theorem RF  {x:Operand} (hc:ax P (.move x)=some n) (hO:OE ι t e) (_hR:Rel P ι B h w) (_hB:B<=w.heap.size):
 bJ P ι B h w (ai n t h) ((execOp e ⟨dst,.move x,type,pos,after,guard⟩).run P w):=by
 replace hc:iy x=some n:=hc
 unfold iy at hc
 split at hc
 ·rename_i y hy;cases hc;exact pN (hO _ _ hy)
 ·cases hc
theorem Jv  {x:Operand} (hc:ax P (.assign x)=some n) (hO:OE ι t e) (_hR:Rel P ι B h w) (_hB:B<=w.heap.size):
 bJ P ι B h w (ai n t h) ((execOp e ⟨dst,.assign x,type,pos,after,guard⟩).run P w):=by
 replace hc:iy x=some n:=hc
 unfold iy at hc
 split at hc
 ·rename_i y hy;cases hc;exact pN (hO _ _ hy)
 ·cases hc
theorem RR  {c:Operand} {a:Operand} {b:Operand} (hc:ax P (.pick c a b)=some n) (hO:OE ι t e) (_hR:Rel P ι B h w) (_hB:B<=w.heap.size):
 bJ P ι B h w (ai n t h) ((execOp e ⟨dst,.pick c a b,type,pos,after,guard⟩).run P w):=by
 replace hc:rM c a b=some n:=hc
 unfold rM at hc
 split at hc
 ·rename_i h1 h2 h3;cases hc;exact Gh (hO _ _ h1) (hO _ _ h2) (hO _ _ h3)
 ·cases hc
theorem K4  {T:TypeId} (hc:ax P (.alloc T)=some n) (_hO:OE ι t e) (hR:Rel P ι B h w) (hB:B<=w.heap.size):
 bJ P ι B h w (ai n t h) ((execOp e ⟨dst,.alloc T,type,pos,after,guard⟩).run P w):=by
 replace hc:lp P T=some n:=hc
 unfold lp at hc
 split at hc
 ·rename_i z hz;rw[aj] at hc;cases hc
  show bJ P ι B h w _ ((do pure (Next.value (←Instr.alloc T true (.tuple #[]))):Sem Next).run P w)
  rw[bW];exact Cg (t:=t) hz hR hB T
 ·cases hc
theorem Xv  {T:TypeId} {x:Operand} (hc:ax P (.box T x)=some n) (hO:OE ι t e) (hR:Rel P ι B h w) (hB:B<=w.heap.size):
 bJ P ι B h w (ai n t h) ((execOp e ⟨dst,.box T x,type,pos,after,guard⟩).run P w):=by
 replace hc:Ge T x=some n:=hc
 unfold Ge at hc
 split at hc
 ·rename_i y hy;rw[aj] at hc;cases hc
  show bJ P ι B h w _ ((do pure (Next.value (←Instr.box T (e x))):Sem Next).run P w)
  rw[bW];exact JD (hO _ _ hy) hR hB T T
 ·cases hc
theorem Nb  {T:TypeId} {ps:Array (Nat×Operand)} (hc:ax P (.build T ps)=some n) (hO:OE ι t e) (_hR:Rel P ι B h w) (_hB:B<=w.heap.size):
 bJ P ι B h w (ai n t h) ((execOp e ⟨dst,.build T ps,type,pos,after,guard⟩).run P w):=by
 show bJ P ι B h w _ ((do pure (Next.value (←Instr.build T (ps.map λ(i,x)=>(i,e x)))):Sem Next).run P w)
 have ep:(ps.map λ(i,x)=>(i,e x))=(ps.toList.map λp=>(p.1,e p.2)).toArray:=by apply Array.ext';simp
 rw[bW,ep]
 replace hc:lh P T ps.toList=some n:=hc
 unfold lh at hc
 split at hc
 ·rename_i z hz
  split at hc
  ·rename_i fs hT
   split at hc
   ·rename_i pl hpl
    split at hc
    ·rename_i l hl;cases hc;exact kR hz hT hpl (ie hO hl)
    ·cases hc
   ·cases hc
  ·rename_i m el hT
   split at hc
   ·rename_i k hk
    split at hc
    ·rename_i l hl;cases hc;exact lX hz hT hk (ie hO hl)
    ·cases hc
   ·cases hc
  ·cases hc
 ·cases hc
theorem sC  {T:TypeId} {ps:Array (Nat×Operand)} (hc:ax P (.buildSlice T len ps)=some n) (hO:OE ι t e) (hR:Rel P ι B h w) (hB:B<=w.heap.size):
 bJ P ι B h w (ai n t h) ((execOp e ⟨dst,.buildSlice T len ps,type,pos,after,guard⟩).run P w):=by
 have ep:(ps.map λ(i,x)=>(i,e x))=(ps.toList.map λp=>(p.1,e p.2)).toArray:=by apply Array.ext';simp
 unfold execOp
 dsimp only
 rw[bW,ep]
 replace hc:dk P T len ps.toList=some n:=hc
 unfold dk at hc
 split at hc
 ·rename_i el hT
  split at hc
  ·rename_i z k hz hk
   split at hc
   ·rename_i l hl
    obtain⟨c1,c2⟩:=aP hc
    rw[fG,aj,aj] at c2;cases c2
    rw[ab6] at c1
    have c3:len*k<=16777216:=ac4 c1.2
    exact mZ (T':=0) hT hz hk (ac4 c1.1) c3 rfl rfl (ie hO hl) hR hB
   ·cases hc
  ·cases hc
 ·cases hc
theorem SO  {T:TypeId} {x:Operand} (hc:ax P (.load T x)=some n) (hO:OE ι t e) (hR:Rel P ι B h w) (_hB:B<=w.heap.size):
 bJ P ι B h w (ai n t h) ((execOp e ⟨dst,.load T x,type,pos,after,guard⟩).run P w):=by
 show bJ P ι B h w _ ((do pure (Next.value (←Instr.loadAt T (e x))):Sem Next).run P w)
 rw[bW]
 replace hc:p9 P T x=some n:=hc
 unfold p9 at hc
 split at hc
 ·rename_i y hT hy;cases hc;exact oF hT (hO _ _ hy) hR
 ·rename_i k y hT hy;cases hc;exact oG hT (hO _ _ hy) hR
 ·cases hc
theorem Oz  {T:TypeId} {a:Operand} {x:Operand} (hc:ax P (.store T a x)=some n) (hO:OE ι t e) (hR:Rel P ι B h w) (_hB:B<=w.heap.size):
 bJ P ι B h w (ai n t h) ((execOp e ⟨dst,.store T a x,type,pos,after,guard⟩).run P w):=by
 show bJ P ι B h w _ ((do Instr.storeAt T (e a) (e x);pure Next.skip:Sem Next).run P w)
 rw[PW]
 replace hc:lc P T a x=some n:=hc
 unfold lc at hc
 split at hc
 ·rename_i k ya yx hT ha hx;cases hc;exact Dt hT (hO _ _ ha) (hO _ _ hx) hR
 ·cases hc
theorem zM  {x:Operand} (hc:ax P (.nilCheck x)=some n) (hO:OE ι t e) (_hR:Rel P ι B h w) (_hB:B<=w.heap.size):
 bJ P ι B h w (ai n t h) ((execOp e ⟨dst,.nilCheck x,type,pos,after,guard⟩).run P w):=by
 replace hc:eH x=some n:=hc
 unfold eH at hc
 split at hc
 ·rename_i y hy;cases hc;exact pS (hO _ _ hy)
 ·cases hc
theorem NL  {T:TypeId} {x:Operand} {y:Operand} {T2:TypeId} (hc:ax P (.binOp op T x y T2)=some n) (hO:OE ι t e) (_hR:Rel P ι B h w) (_hB:B<=w.heap.size):
 bJ P ι B h w (ai n t h) ((execOp e ⟨dst,.binOp op T x y T2,type,pos,after,guard⟩).run P w):=by
 show bJ P ι B h w _ ((do pure (Next.value (←(do eqGuard op T x y (e x) (e y);binOp op T (e x) (e y)))):Sem Next).run P w)
 rw[bW]
 replace hc:Gw P op T x y=some n:=hc
 unfold Gw at hc
 split at hc
 ·rename_i x' y' hx hy
  split at hc
  ·rename_i fs hT
   cases hc
  ·rename_i ms hT
   cases c1:(cY x||cY y) with
   |true=>
    rw[c1] at hc;cases hc
    rw[Bool.or_eq_true] at c1
    exact nq hT (by simp[BC.of]) (hO _ _ hx) (hO _ _ hy) (λ_=>c1) λ_ q=>by cases q
   |false=>
    rw[c1] at hc;cases hc
    exact nq hT (by simp[BC.of]) (hO _ _ hx) (hO _ _ hy) (λq=>by cases q) λ_ q=>by cases q;exact xA P
  ·rename_i d hT
   split at hc
   ·rename_i c hcl
    cases hc
    obtain⟨q1,q2,q3⟩:=FT hcl
    exact nq hT q1 (hO _ _ hx) (hO _ _ hy) (λq=>adD q q2) λts q=>adD q (q3 ts)
   ·cases hc
  ·cases hc
 ·cases hc
theorem Te  {op:UnOp} {T:TypeId} {x:Operand} (hc:ax P (.unOp op T x)=some n) (hO:OE ι t e) (_hR:Rel P ι B h w) (_hB:B<=w.heap.size):
 bJ P ι B h w (ai n t h) ((execOp e ⟨dst,.unOp op T x,type,pos,after,guard⟩).run P w):=by
 show bJ P ι B h w _ ((do pure (Next.value (←Op.unary op (e x))):Sem Next).run P w)
 rw[bW]
 replace hc:U7 op x=some n:=hc
 unfold U7 at hc
 split at hc
 ·rename_i y hy;cases hc;exact KC (hO _ _ hy)
 ·cases hc
theorem FA {dst0:Option Tmp} {src:TypeId} {dst:TypeId} {x:Operand} (hc:ax P (.convert src dst x)=some n) (hO:OE ι t e) (hR:Rel P ι B h w) (hB:B<=w.heap.size):
 bJ P ι B h w (ai n t h) ((execOp e ⟨dst0,.convert src dst x,type,pos,after,guard⟩).run P w):=by
 show bJ P ι B h w _ ((do pure (Next.value (←convert src dst (e x))):Sem Next).run P w)
 rw[bW]
 replace hc:rJ P src dst x=some n:=hc
 unfold rJ at hc
 split at hc
 ·rename_i y hy;exact Gm hc (hO _ _ hy) hR hB
 ·cases hc
theorem nj  {T:TypeId} {x:Operand} (hc:ax P (.makeInterface T x)=some n) (hO:OE ι t e) (_hR:Rel P ι B h w) (_hB:B<=w.heap.size):
 bJ P ι B h w (ai n t h) ((execOp e ⟨dst,.makeInterface T x,type,pos,after,guard⟩).run P w):=by
 show bJ P ι B h w _ ((do pure (Next.value (←Instr.makeInterface T (e x))):Sem Next).run P w)
 rw[bW]
 replace hc:Fb P T x=some n:=hc
 unfold Fb at hc
 split at hc
 ·cases hc
 ·rename_i d y hn hT hy;rw[aj] at hc;cases hc
  exact CZ hT (λm hm=>hn m hm) rfl (hO _ _ hy)
 ·cases hc
theorem yK  {fn:Fn} {first:Array Operand} {caps:Array Operand} (hc:ax P (.makeFunc fn first caps)=some n) (hO:OE ι t e) (_hR:Rel P ι B h w) (_hB:B<=w.heap.size):
 bJ P ι B h w (ai n t h) ((execOp e ⟨dst,.makeFunc fn first caps,type,pos,after,guard⟩).run P w):=by
 cases fn with
 |func f=>
  show bJ P ι B h w _ ((do pure (Next.value (←Instr.makeFunc (.func f) (first.map e) (caps.map e))):Sem Next).run P w)
  rw[bW]
  replace hc:pW f first.toList caps.toList=some n:=hc
  unfold pW at hc
  split at hc
  ·rename_i l h1 h2
   rw[aj] at hc;cases hc
   have e1:first.map e=#[]:=by
    have:first=#[]:=by apply Array.ext';simpa using h1
    rw[this];simp
   have e2:caps.map e=(caps.toList.map e).toArray:=by apply Array.ext';simp
   rw[e1,e2]
   exact EV (kS hO h2)
  ·cases hc
 |_=>have hc:(none:Option NOp)=some n:=hc;cases hc
theorem Fe  {T:TypeId} {r:Option Operand} (hc:ax P (.makeMap T r)=some n) (_hO:OE ι t e) (hR:Rel P ι B h w) (hB:B<=w.heap.size):
 bJ P ι B h w (ai n t h) ((execOp e ⟨dst,.makeMap T r,type,pos,after,guard⟩).run P w):=by
 cases r with
 |none=>
  cases hc
  show bJ P ι B h w _ ((do pure (Next.value (←Instr.makeMap T none)):Sem Next).run P w)
  rw[bW]
  exact yD (t:=t) T hR hB
 |some r=>have hc:(none:Option NOp)=some n:=hc;cases hc
theorem wj  {T:TypeId} {l:Operand} {c:Operand} (hc:ax P (.makeSlice T l c)=some n) (hO:OE ι t e) (hR:Rel P ι B h w) (hB:B<=w.heap.size):
 bJ P ι B h w (ai n t h) ((execOp e ⟨dst,.makeSlice T l c,type,pos,after,guard⟩).run P w):=by
 show bJ P ι B h w _ ((do pure (Next.value (←Instr.makeSlice T (e l) (e c))):Sem Next).run P w)
 rw[bW]
 replace hc:fW P T l c=some n:=hc
 unfold fW at hc
 split at hc
 ·rename_i el hT
  split at hc
  ·rename_i h1 h2 h3 h4 h5
   obtain⟨c1,c2⟩:=aP hc
   rw[aj] at c2;cases c2
   rw[bO] at c1
   exact sG hT h2 h3 h1 (of_decide_eq_true c1) el (hO _ _ h4) (hO _ _ h5) hR hB
  ·cases hc
 ·cases hc
theorem PV  {T:TypeId} {x:Operand} {lo:Option Operand} {hi:Option Operand} {mx:Option Operand} (hc:ax P (.slice T x lo hi mx)=some n) (hO:OE ι t e) (_hR:Rel P ι B h w) (_hB:B<=w.heap.size):
 bJ P ι B h w (ai n t h) ((execOp e ⟨dst,.slice T x lo hi mx,type,pos,after,guard⟩).run P w):=by
 show bJ P ι B h w _ ((do pure (Next.value (←Instr.sliceAt T (e x) (lo.map e) (hi.map e) (mx.map e))):Sem Next).run P w)
 rw[bW]
 cases mx with
 |none=>
  replace hc:ly P T x lo hi=some n:=hc
  unfold ly at hc
  split at hc
  ·rename_i hT hx hl hh;cases hc;exact qI hT (hO _ _ hx) (kv hO hl) (kv hO hh)
  ·rename_i hT hx hl hh
   split at hc
   ·rename_i hk;cases hc;exact pX hT hk (hO _ _ hx) (kv hO hl) (kv hO hh)
   ·cases hc
  ·cases hc
 |some mx=>
  cases lo with
  |none=>have hc:(none:Option NOp)=some n:=hc;cases hc
  |some lo=>
   cases hi with
   |none=>have hc:(none:Option NOp)=some n:=hc;cases hc
   |some hi=>
    replace hc:jc P T x lo hi mx=some n:=hc
    unfold jc at hc
    split at hc
    ·rename_i hT hx hl hh hm
     split at hc
     ·rename_i hk;cases hc
     ·cases hc
    ·cases hc
theorem uD  {s:TypeId} {x:Operand} (hc:ax P (.fieldAddr s x f)=some n) (hO:OE ι t e) (_hR:Rel P ι B h w) (_hB:B<=w.heap.size):
 bJ P ι B h w (ai n t h) ((execOp e ⟨dst,.fieldAddr s x f,type,pos,after,guard⟩).run P w):=by
 show bJ P ι B h w _ ((do pure (Next.value (←Instr.fieldAt s (e x) f)):Sem Next).run P w)
 rw[bW]
 replace hc:dS P s x f=some n:=hc
 unfold dS at hc
 split at hc
 ·rename_i fd y hf hy
  obtain⟨fs,f1,f2⟩:=ow hf
  split at hc
  ·rename_i k hk
   obtain⟨c1,c2⟩:=aP hc
   rw[aj] at c2;cases c2
   rw[bO] at c1
   have c1:=of_decide_eq_true c1
   obtain⟨i,i1,i2⟩:=cF hk
   exact pe f1 f2 i1 (by omega) rfl (hO _ _ hy)
  ·cases hc
 ·cases hc
theorem Oq  {s:TypeId} {x:Operand} (hc:ax P (.field s x f)=some n) (hO:OE ι t e) (_hR:Rel P ι B h w) (_hB:B<=w.heap.size):
 bJ P ι B h w (ai n t h) ((execOp e ⟨dst,.field s x f,type,pos,after,guard⟩).run P w):=by
 show bJ P ι B h w _ ((do pure (Next.value (←Instr.field s (e x) f)):Sem Next).run P w)
 rw[bW]
 replace hc:lg P s x f=some n:=hc
 unfold lg at hc
 split at hc
 ·rename_i fd y hf hy
  obtain⟨fs,f1,f2⟩:=ow hf
  split at hc
  ·rename_i hT;rw[aj] at hc;cases hc;exact uB f1 f2 hT rfl (hO _ _ hy)
  ·rename_i hT;rw[aj] at hc;cases hc;exact vq f1 f2 hT rfl (hO _ _ hy)
  ·cases hc
 ·cases hc
theorem ur  {T:TypeId} {x:Operand} {i:Operand} (hc:ax P (.indexAddr T x i)=some n) (hO:OE ι t e) (_hR:Rel P ι B h w) (_hB:B<=w.heap.size):
 bJ P ι B h w (ai n t h) ((execOp e ⟨dst,.indexAddr T x i,type,pos,after,guard⟩).run P w):=by
 show bJ P ι B h w _ ((do pure (Next.value (←Instr.indexAt T (e x) (e i))):Sem Next).run P w)
 rw[bW]
 replace hc:dR P T x i=some n:=hc
 unfold dR at hc
 split at hc
 ·rename_i hT hx hi
  split at hc
  ·rename_i hk;cases hc
  ·cases hc
 ·rename_i hT hx hi
  split at hc
  ·rename_i hk;cases hc;exact sf hT hk (hO _ _ hx) (hO _ _ hi)
  ·cases hc
 ·cases hc
theorem Kk  {T:TypeId} {x:Operand} {i:Operand} (hc:ax P (.index T x i)=some n) (hO:OE ι t e) (_hR:Rel P ι B h w) (_hB:B<=w.heap.size):
 bJ P ι B h w (ai n t h) ((execOp e ⟨dst,.index T x i,type,pos,after,guard⟩).run P w):=by
 show bJ P ι B h w _ ((do pure (Next.value (←Instr.index T (e x) (e i))):Sem Next).run P w)
 rw[bW]
 replace hc:kO P T x i=some n:=hc
 unfold kO at hc
 split at hc
 ·rename_i hT hx hi;cases hc;exact qQ hT (hO _ _ hx) (hO _ _ hi)
 ·rename_i hT hx hi
  split at hc
  ·rename_i m hm;cases hc
  ·cases hc
 ·cases hc
theorem In  {T:TypeId} {x:Operand} {i:Operand} {ok:Bool} (hc:ax P (.lookup T x i ok)=some n) (hO:OE ι t e) (hR:Rel P ι B h w) (_hB:B<=w.heap.size):
 bJ P ι B h w (ai n t h) ((execOp e ⟨dst,.lookup T x i ok,type,pos,after,guard⟩).run P w):=by
 show bJ P ι B h w _ ((do pure (Next.value (←Instr.lookup T (e x) (e i) ok)):Sem Next).run P w)
 rw[bW]
 replace hc:jg P T x i ok=some n:=hc
 unfold jg at hc
 split at hc
 ·rename_i hT hx hi
  split at hc
  ·rename_i hz hs;cases hc;exact vQ hT hs hz ok (hO _ _ hx) (hO _ _ hi) hR
  ·cases hc
 ·cases hc
theorem wx  {T:TypeId} {m:Operand} {k:Operand} {x:Operand} (hc:ax P (.mapUpdate T m k x)=some n) (hO:OE ι t e) (hR:Rel P ι B h w) (_hB:B<=w.heap.size):
 bJ P ι B h w (ai n t h) ((execOp e ⟨dst,.mapUpdate T m k x,type,pos,after,guard⟩).run P w):=by
 show bJ P ι B h w _ ((do Instr.mapUpdate T (e m) (e k) (e x);pure Next.skip:Sem Next).run P w)
 rw[PW]
 replace hc:bA P T m k x=some n:=hc
 unfold bA at hc
 split at hc
 ·rename_i hT hm hk hx
  split at hc
  ·rename_i hs;cases hc;exact ju hT hs (hO _ _ hm) (hO _ _ hk) (hO _ _ hx) hR
  ·cases hc
 ·cases hc
theorem Jd  {T:TypeId} {m:Operand} {k:Operand} {x:Operand} (hc:ax P (.insert T m k x)=some n) (hO:OE ι t e) (hR:Rel P ι B h w) (_hB:B<=w.heap.size):
 bJ P ι B h w (ai n t h) ((execOp e ⟨dst,.insert T m k x,type,pos,after,guard⟩).run P w):=by
 show bJ P ι B h w _ ((do Instr.mapUpdate T (e m) (e k) (e x);pure Next.skip:Sem Next).run P w)
 rw[PW]
 replace hc:bA P T m k x=some n:=hc
 unfold bA at hc
 split at hc
 ·rename_i hT hm hk hx
  split at hc
  ·rename_i hs;cases hc;exact ju hT hs (hO _ _ hm) (hO _ _ hk) (hO _ _ hx) hR
  ·cases hc
 ·cases hc
theorem sP  {x:Operand} {X:TypeId} {T:TypeId} {ok:Bool} (hc:ax P (.typeAssert x X T ok)=some n) (hO:OE ι t e) (_hR:Rel P ι B h w) (_hB:B<=w.heap.size):
 bJ P ι B h w (ai n t h) ((execOp e ⟨dst,.typeAssert x X T ok,type,pos,after,guard⟩).run P w):=by
 cases ok with
 |false=>have hc:(none:Option NOp)=some n:=hc;cases hc
 |true=>
  show bJ P ι B h w _ ((do pure (Next.value (←Instr.typeAssert (e x) X T true)):Sem Next).run P w)
  rw[bW]
  replace hc:jp P T x=some n:=hc
  unfold jp at hc
  split at hc
  ·cases hc
  ·rename_i d z y hn hT hz hy;rw[aj] at hc;cases hc
   exact nJ hT (λm hm=>hn m hm) hz rfl X (hO _ _ hy)
  ·cases hc
theorem FW  {x:Operand} (hc:ax P (.extract x i)=some n) (hO:OE ι t e) (_hR:Rel P ι B h w) (_hB:B<=w.heap.size):
 bJ P ι B h w (ai n t h) ((execOp e ⟨dst,.extract x i,type,pos,after,guard⟩).run P w):=by
 show bJ P ι B h w _ ((do pure (Next.value (←Instr.extract (e x) i)):Sem Next).run P w)
 rw[bW]
 replace hc:gk x i=some n:=hc
 unfold gk at hc
 split at hc
 ·rename_i y hy;rw[aj] at hc;cases hc;exact sx rfl (hO _ _ hy)
 ·cases hc
theorem P4  {x:Operand} (hc:ax P (.panic x)=some n) (hO:OE ι t e) (_hR:Rel P ι B h w) (_hB:B<=w.heap.size):
 bJ P ι B h w (ai n t h) ((execOp e ⟨dst,.panic x,type,pos,after,guard⟩).run P w):=by
 show bJ P ι B h w _ ((do pure (Next.value (←Instr.panic (e x))):Sem Next).run P w)
 rw[bW]
 replace hc:lq x=some n:=hc
 unfold lq at hc
 split at hc
 ·rename_i y hy;cases hc;exact yb (hO _ _ hy)
 ·cases hc
theorem SH  {c:Call} (hc:ax P (.call c)=some n) (hO:OE ι t e) (hR:Rel P ι B h w) (hB:B<=w.heap.size):
 bJ P ι B h w (ai n t h) ((execOp e ⟨dst,.call c,type,pos,after,guard⟩).run P w):=by
 obtain⟨callee,args,ats⟩:=c
 cases callee with
 |value f=>
  replace hc:rU f args.toList=some n:=hc
  unfold rU at hc
  split at hc
  ·rename_i hf hl
   cases hc
   have ea:args.map e=(args.toList.map e).toArray:=by apply Array.ext';simp
   show bJ P ι B h w _ ((do let d ←Deferred.ofValue (e f) (args.map e);invoke d.target d.args:Sem Next).run P w)
   rw[ea]
   exact Fu (hO _ _ hf) (kS hO hl)
  ·cases hc
 |builtin b=>
  replace hc:gu P b args.toList ats.toList=some n:=hc
  unfold gu at hc
  split at hc
  ·rename_i l hl
   exact sE hl hc hO hR hB type _
  ·cases hc
 |invoke r m=>have hc:(none:Option NOp)=some n:=hc;cases hc
theorem Qf  {c:Call} (hc:ax P (.defer c)=some n) (hO:OE ι t e) (_hR:Rel P ι B h w) (_hB:B<=w.heap.size):
 bJ P ι B h w (ai n t h) ((execOp e ⟨dst,.defer c,type,pos,after,guard⟩).run P w):=by
 obtain⟨callee,args,ats⟩:=c
 cases callee with
 |value f=>
  replace hc:gO f args.toList=some n:=hc
  unfold gO at hc
  split at hc
  ·rename_i y h1 hf
   cases hc
   have ea:args.map e=#[]:=by
    have:args=#[]:=by apply Array.ext';simpa using h1
    rw[this];simp
   show bJ P ι B h w _ ((do pure (Next.defer (←Deferred.ofValue (e f) (args.map e))):Sem Next).run P w)
   rw[ea]
   exact zW (hO _ _ hf)
  ·cases hc
 |builtin b=>have hc:(none:Option NOp)=some n:=hc;cases hc
 |invoke r m=>have hc:(none:Option NOp)=some n:=hc;cases hc
theorem Mo {o:Oper} (hc:ax P o.op=some n) (hO:OE ι t e) (hR:Rel P ι B h w) (hB:B<=w.heap.size):bJ P ι B h w (ai n t h) ((execOp e o).run P w):=by
 obtain⟨dst,op,type,pos,after,guard⟩:=o
 cases op with
 |move x=>exact RF hc hO hR hB
 |assign x=>exact Jv hc hO hR hB
 |pick c a b=>exact RR hc hO hR hB
 |alloc T=>exact K4 hc hO hR hB
 |box T x=>exact Xv hc hO hR hB
 |build T ps=>exact Nb hc hO hR hB
 |buildSlice T len ps=>exact sC hc hO hR hB
 |load T x=>exact SO hc hO hR hB
 |store T a x=>exact Oz hc hO hR hB
 |nilCheck x=>exact zM hc hO hR hB
 |binOp op T x y T2=>exact NL hc hO hR hB
 |unOp op T x=>exact Te hc hO hR hB
 |convert src dst x=>exact FA hc hO hR hB
 |makeInterface T x=>exact nj hc hO hR hB
 |makeFunc fn first caps=>exact yK hc hO hR hB
 |makeMap T r=>exact Fe hc hO hR hB
 |makeSlice T l c=>exact wj hc hO hR hB
 |slice T x lo hi mx=>exact PV hc hO hR hB
 |fieldAddr s x f=>exact uD hc hO hR hB
 |field s x f=>exact Oq hc hO hR hB
 |indexAddr T x i=>exact ur hc hO hR hB
 |index T x i=>exact Kk hc hO hR hB
 |lookup T x i ok=>exact In hc hO hR hB
 |mapUpdate T m k x=>exact wx hc hO hR hB
 |insert T m k x=>exact Jd hc hO hR hB
 |typeAssert x X T ok=>exact sP hc hO hR hB
 |extract x i=>exact FW hc hO hR hB
 |panic x=>exact P4 hc hO hR hB
 |call c=>exact SH hc hO hR hB
 |defer c=>exact Qf hc hO hR hB
 |next x s=>cases s<;>(have hc:(none:Option NOp)=some n:=hc;cases hc)
 |_=>have hc:(none:Option NOp)=some n:=hc;cases hc
end
open Go
def EA (x:Option NOpd):List NOpd:=match x with|some x=> [x]|none=> []
def opsOf:NOp->List NOpd
 | .move x| .box x _| .load1 x| .loadN _ x| .nilCheck x| .un _ x| .toInt _ x| .strToBytes _ x| .bytesToStr x| .sameSlc x| .toStr x| .mkIfc _ x| .fieldAddr _ x| .field1 _ x| .fieldN _ _ x
 | .typeAssert _ _ x| .extract x _| .panic x| .lenStr x| .lenSlc x| .lenMap x| .clearSlc _ x| .defer x| .rangeMap x| .nextMap x| .entryMap x=> [x]
 | .pick c a b=> [c,a,b]
 | .build _ ps| .buildSlice _ _ _ _ ps=>ps.map λp=>p.2.2
 | .store _ a x| .bin _ _ a x| .eqAgg _ _ a x| .mkSlice _ _ _ _ a x| .indexSlc _ a x| .indexArr _ _ a x| .indexStr a x| .indexAgg _ _ a x| .lookup _ _ _ a x| .append _ _ _ a x| .appendStr _ a x| .copy _ a x| .delete _ a x=> [a,x]
 | .mkFn _ l| .minmax _ l=>l
 | .sliceStr x lo hi| .sliceSlc _ x lo hi=>x::(EA lo++EA hi)
 | .sliceMax _ x lo hi mx=> [x,lo,hi,mx]
 | .mapUpdate _ m k v=> [m,k,v]
 | .call f l=>f::l
 | .fail| .alloc ..| .mkMap| .recover| .lenArr _=> []
section
variable {t t':Tm}
theorem rI  {l:List NOpd} (e:∀x∈l,ρ t x=ρ t' x) (F:R) (K:List NV->R):Fz t l F K=Fz t' l F K:=by
 induction l generalizing K with
 |nil=>rfl
 |cons x l ih=>
  show (Option.rec F (λv=>Fz t l F λl=>K (v::l)) (ρ t x):R)=(Option.rec F (λv=>Fz t' l F λl=>K (v::l)) (ρ t' x):R)
  rw[e x (by simp)]
  cases ρ t' x with
  |none=>rfl
  |some v=>exact ih (λx hx=>e x (by simp[hx])) _
theorem GS  (e:∀x∈ps.map (λp=>p.2.2),ρ t x=ρ t' x) (l:List NV):cX t ps l=cX t' ps l:=by
 induction ps generalizing l with
 |nil=>rfl
 |cons p ps ih=>
  show (Option.rec none (λv:NV=>Option.rec none (λcs=>dJ cs λk=>cond (Nat.beq k p.2.1) (Option.rec none (cX t ps) (dx cs p.1 l)) none) (cellsOf v)) (ρ t p.2.2):Option (List NV))=
   (Option.rec none (λv:NV=>Option.rec none (λcs=>dJ cs λk=>cond (Nat.beq k p.2.1) (Option.rec none (cX t' ps) (dx cs p.1 l)) none) (cellsOf v)) (ρ t' p.2.2):Option (List NV))
  rw[e _ (by simp),funext (ih λx hx=>e x (by simp at hx ⊢;exact .inr hx))]
theorem F8  (e:∀x∈ps.map (λp=>p.2.2),ρ t x=ρ t' x) (c:Nat) (l:List NV):cM t ps c l=cM t' ps c l:=by
 induction ps generalizing c l with
 |nil=>rfl
 |cons p ps ih=>
  have ih':cM t ps=cM t' ps:=funext λc=>funext λl=>ih (λx hx=>e x (by simp at hx ⊢;exact .inr hx)) c l
  show (Option.rec none (λv:NV=>Option.rec none (λcs=>dJ cs λk=>cond (Nat.beq k p.2.1) (cond (Nat.ble c p.1)
   (gT (Nat.sub p.1 c) (λl=>Option.rec none (λl=>Option.rec none (λl=>iM cs l some) (cM t ps (Nat.add p.1 k) l)) (dN k l)) l) none) none) (cellsOf v)) (ρ t p.2.2):Option (List NV))=
   (Option.rec none (λv:NV=>Option.rec none (λcs=>dJ cs λk=>cond (Nat.beq k p.2.1) (cond (Nat.ble c p.1)
   (gT (Nat.sub p.1 c) (λl=>Option.rec none (λl=>Option.rec none (λl=>iM cs l some) (cM t' ps (Nat.add p.1 k) l)) (dN k l)) l) none) none) (cellsOf v)) (ρ t' p.2.2):Option (List NV))
  rw[e _ (by simp),ih']
theorem bK {x:NOpd} (e:ρ t x=ρ t' x) (K K':NV->NR) (k:∀v,K v=K' v):wV t x K=wV t' x K':=by
 unfold wV;rw[e,funext k]
theorem iF {x:NOpd} (e:ρ t x=ρ t' x) (K K':Nat->NR) (k:∀v,K v=K' v):gR t x K=gR t' x K':=by
 unfold gR;rw[funext k];exact bK e _ _ λ_=>rfl
theorem gU {x:Option NOpd} (e:∀y∈EA x,ρ t y=ρ t' y) (d:Nat) (K K':Nat->NR) (k:∀v,K v=K' v):dD t x d K=dD t' x d K':=by
 cases x with
 |none=>exact k d
 |some x=>exact iF (e x (by simp[EA])) _ _ k
theorem ri {o:NOp} (e:∀x∈opsOf o,ρ t x=ρ t' x) (h:NH):ai o t h=ai o t' h:=by
 cases o with
 |fail=>rfl
 |alloc=>rfl
 |mkMap=>rfl
 |recover=>rfl
 |lenArr=>rfl
 |pick c a b=>
  refine bK (e c (by simp[opsOf])) _ _ λv=> ?_
  cases v<;>try rfl
  rename_i q
  cases q
  ·exact bK (e b (by simp[opsOf])) _ _ λ_=>rfl
  ·exact bK (e a (by simp[opsOf])) _ _ λ_=>rfl
 |build z ps=>show aS (cX t ps z) _=aS (cX t' ps z) _;rw[GS (λx hx=>e x hx)]
 |buildSlice z n len T ps=>show aS (cM t ps 0 z) _=aS (cM t' ps 0 z) _;rw[F8 (λx hx=>e x hx)]
 |store n a x=>exact bK (e a (by simp[opsOf])) _ _ λ_=>bK (e x (by simp[opsOf])) _ _ λ_=>rfl
 |bin c op a x=>exact bK (e a (by simp[opsOf])) _ _ λ_=>bK (e x (by simp[opsOf])) _ _ λ_=>rfl
 |eqAgg n es a x=>rfl
 |lookup s z ok a x=>exact bK (e a (by simp[opsOf])) _ _ λ_=>bK (e x (by simp[opsOf])) _ _ λ_=>rfl
 |append n b T a x=>exact bK (e a (by simp[opsOf])) _ _ λ_=>bK (e x (by simp[opsOf])) _ _ λ_=>rfl
 |appendStr T a x=>rfl
 |copy n a x=>rfl
 |delete s a x=>rfl
 |mkSlice z n b T a x=>exact iF (e a (by simp[opsOf])) _ _ λ_=>iF (e x (by simp[opsOf])) _ _ λ_=>rfl
 |indexSlc n a x=>exact bK (e a (by simp[opsOf])) _ _ λ_=>iF (e x (by simp[opsOf])) _ _ λ_=>rfl
 |indexArr n l a x=>rfl
 |indexAgg m l a x=>rfl
 |indexStr a x=>exact bK (e a (by simp[opsOf])) _ _ λ_=>iF (e x (by simp[opsOf])) _ _ λ_=>rfl
 |mkFn f l=>exact rI e _ _
 |minmax m l=>exact rI e _ _
 |call f l=>exact bK (e f (by simp[opsOf])) _ _ λ_=>rI (λx hx=>e x (by simp[opsOf,hx])) _ _
 |mapUpdate s m k v=>exact bK (e m (by simp[opsOf])) _ _ λ_=>bK (e k (by simp[opsOf])) _ _ λ_=>bK (e v (by simp[opsOf])) _ _ λ_=>rfl
 |sliceStr x lo hi=>
  refine bK (e x (by simp[opsOf])) _ _ λv=> ?_
  cases v<;>try rfl
  show dJ _ _=dJ _ _
  rw[bS,bS]
  exact gU (λy hy=>e y (by simp[opsOf,hy])) _ _ _ λ_=>gU (λy hy=>e y (by simp[opsOf,hy])) _ _ _ λ_=>rfl
 |sliceSlc n x lo hi=>
  refine bK (e x (by simp[opsOf])) _ _ λv=> ?_
  cases v<;>try rfl
  all_goals exact gU (λy hy=>e y (by simp[opsOf,hy])) _ _ _ λ_=>gU (λy hy=>e y (by simp[opsOf,hy])) _ _ _ λ_=>rfl
 |sliceMax=>rfl
 |_=>first|rfl|exact bK (e _ (by simp[opsOf])) _ _ λ_=>rfl
end
section
variable {P:Program}
def Sub (n:NOp) (op:Op):Prop:=∀y∈opsOf n,∃x∈op.operands.toList,aH x=some y
theorem kr  {x:Option α} {r:α} (hc:cond b none x=some r):x=some r:=by
 cases b with
 |true=>cases hc
 |false=>exact hc
theorem qv {l:List Operand} {l':List NOpd} (hc:eT l=some l'):∀y∈l',∃x∈l,aH x=some y:=by
 induction l generalizing l' with
 |nil=>cases hc;simp
 |cons x l ih=>
  have hc':(match aH x,eT l with|some x,some l=>some (x::l)|_,_=>none)=some l':=hc
  split at hc'
  ·rename_i z m h1 h2
   cases hc'
   intro y hy
   rcases aa1.1 hy with rfl|hy
   ·exact⟨x,by simp,h1⟩
   ·obtain⟨u,a,b⟩:=ih h2 y hy
    exact⟨u,by simp[a],b⟩
  ·cases hc'
theorem te  {l:List (Nat×Operand)} (hc:eK place l=some ps):∀y∈ps.map (λp=>p.2.2),∃x∈l.map (·.2),aH x=some y:=by
 induction l generalizing ps with
 |nil=>cases hc;simp
 |cons x l ih=>
  have hc':(match place x.1,aH x.2,eK place l with
   |some p,some x,some l=>aG p.1 λo=>aG p.2 λn=>some ((o,n,x)::l)
   |_,_,_=>none)=some ps:=hc
  split at hc'
  ·rename_i p z m h1 h2 h3
   simp only[aj] at hc'
   cases hc'
   intro y hy
   rcases aa1.1 hy with rfl|hy
   ·exact⟨x.2,by simp,h2⟩
   ·obtain⟨u,a,b⟩:=ih h3 y hy
    exact⟨u,aa8 _ a,b⟩
  ·cases hc'
theorem lQ {x:Option Operand} {y:Option NOpd} (hc:pw x=some y):∀z∈EA y,∃u∈x.toList,aH u=some z:=by
 cases x with
 |none=>cases hc;simp[EA]
 |some x=>
  have hc':(match aH x with|some x=>some (some x)|none=>none)=some y:=hc
  split at hc'
  ·rename_i z hz;cases hc';simp[EA,hz]
  ·cases hc'
theorem ME (x:Operand) (hc:ax P (.move x)=some n):Sub n (.move x):=by
 replace hc:iy x=some n:=hc
 unfold iy at hc
 repeat' split at hc
 all_goals first
  |(cases hc;done)
  |(cases hc;simp_all [Sub,opsOf,Op.operands];done)
theorem FX (x:Operand) (hc:ax P (.assign x)=some n):Sub n (.assign x):=by
 replace hc:iy x=some n:=hc
 unfold iy at hc
 repeat' split at hc
 all_goals first
  |(cases hc;done)
  |(cases hc;simp_all [Sub,opsOf,Op.operands];done)
theorem LD (c a b:Operand) (hc:ax P (.pick c a b)=some n):Sub n (.pick c a b):=by
 replace hc:rM c a b=some n:=hc
 unfold rM at hc
 repeat' split at hc
 all_goals first
  |(cases hc;done)
  |(cases hc;simp_all [Sub,opsOf,Op.operands];done)
theorem Tx (T:TypeId) (x:Operand) (hc:ax P (.box T x)=some n):Sub n (.box T x):=by
 replace hc:Ge T x=some n:=hc
 unfold Ge at hc
 repeat' split at hc
 all_goals first
  |(cases hc;done)
  |(rw[aj] at hc;cases hc;simp_all [Sub,opsOf,Op.operands];done)
theorem Ob (T:TypeId) (x:Operand) (hc:ax P (.load T x)=some n):Sub n (.load T x):=by
 replace hc:p9 P T x=some n:=hc
 unfold p9 at hc
 repeat' split at hc
 all_goals first
  |(cases hc;done)
  |(cases hc;simp_all [Sub,opsOf,Op.operands];done)
theorem IP (T:TypeId) (a x:Operand) (hc:ax P (.store T a x)=some n):Sub n (.store T a x):=by
 replace hc:lc P T a x=some n:=hc
 unfold lc at hc
 repeat' split at hc
 all_goals first
  |(cases hc;done)
  |(cases hc;simp_all [Sub,opsOf,Op.operands];done)
theorem wq (x:Operand) (hc:ax P (.nilCheck x)=some n):Sub n (.nilCheck x):=by
 replace hc:eH x=some n:=hc
 unfold eH at hc
 repeat' split at hc
 all_goals first
  |(cases hc;done)
  |(cases hc;simp_all [Sub,opsOf,Op.operands];done)
theorem I5 (op:BinOp) (T:TypeId) (x y:Operand) (T2:TypeId) (hc:ax P (.binOp op T x y T2)=some n):Sub n (.binOp op T x y T2):=by
 replace hc:Gw P op T x y=some n:=hc
 unfold Gw at hc
 repeat' split at hc
 all_goals first
  |(cases hc;done)
  |(cases hc;simp_all [Sub,opsOf,Op.operands];done)
  |(replace hc:=(aP hc).2;cases hc;simp_all [Sub,opsOf,Op.operands];done)
  |(cases hb:(cY x||cY y)<;>rw[hb] at hc<;>cases hc<;>simp_all [Sub,opsOf,Op.operands];done)
  |(replace hc:=kr hc;cases hc;done)
  |(replace hc:=kr hc;cases hc;simp_all [Sub,opsOf,Op.operands];done)
theorem Kj (op:UnOp) (T:TypeId) (x:Operand) (hc:ax P (.unOp op T x)=some n):Sub n (.unOp op T x):=by
 replace hc:U7 op x=some n:=hc
 unfold U7 at hc
 repeat' split at hc
 all_goals first
  |(cases hc;done)
  |(cases hc;simp_all [Sub,opsOf,Op.operands];done)
theorem mq (T:TypeId) (x:Operand) (hc:ax P (.makeInterface T x)=some n):Sub n (.makeInterface T x):=by
 replace hc:Fb P T x=some n:=hc
 unfold Fb at hc
 repeat' split at hc
 all_goals first
  |(cases hc;done)
  |(rw[aj] at hc;cases hc;simp_all [Sub,opsOf,Op.operands];done)
theorem sY (T:TypeId) (l c:Operand) (hc:ax P (.makeSlice T l c)=some n):Sub n (.makeSlice T l c):=by
 replace hc:fW P T l c=some n:=hc
 unfold fW at hc
 repeat' split at hc
 all_goals first
  |(cases hc;done)
  |(replace hc:=(aP hc).2;rw[aj] at hc;cases hc;simp_all [Sub,opsOf,Op.operands];done)
theorem sV (s:TypeId) (x:Operand) (f:Nat) (hc:ax P (.fieldAddr s x f)=some n):Sub n (.fieldAddr s x f):=by
 replace hc:dS P s x f=some n:=hc
 unfold dS at hc
 repeat' split at hc
 all_goals first
  |(cases hc;done)
  |(replace hc:=(aP hc).2;rw[aj] at hc;cases hc;simp_all [Sub,opsOf,Op.operands];done)
theorem IE (s:TypeId) (x:Operand) (f:Nat) (hc:ax P (.field s x f)=some n):Sub n (.field s x f):=by
 replace hc:lg P s x f=some n:=hc
 unfold lg at hc
 repeat' split at hc
 all_goals first
  |(cases hc;done)
  |(rw[aj] at hc;cases hc;simp_all [Sub,opsOf,Op.operands];done)
theorem ta (T:TypeId) (x i:Operand) (hc:ax P (.indexAddr T x i)=some n):Sub n (.indexAddr T x i):=by
 replace hc:dR P T x i=some n:=hc
 unfold dR at hc
 repeat' split at hc
 all_goals first
  |(cases hc;done)
  |(cases hc;simp_all [Sub,opsOf,Op.operands];done)
  |(rw[aj] at hc;cases hc;simp_all [Sub,opsOf,Op.operands];done)
theorem IX (T:TypeId) (x i:Operand) (hc:ax P (.index T x i)=some n):Sub n (.index T x i):=by
 replace hc:kO P T x i=some n:=hc
 unfold kO at hc
 repeat' split at hc
 all_goals first
  |(cases hc;done)
  |(cases hc;simp_all [Sub,opsOf,Op.operands];done)
  |(rw[aj] at hc;cases hc;simp_all [Sub,opsOf,Op.operands];done)
theorem Gb (T:TypeId) (x i:Operand) (ok:Bool) (hc:ax P (.lookup T x i ok)=some n):Sub n (.lookup T x i ok):=by
 replace hc:jg P T x i ok=some n:=hc
 unfold jg at hc
 repeat' split at hc
 all_goals first
  |(cases hc;done)
  |(cases hc;simp_all [Sub,opsOf,Op.operands];done)
theorem sN (T:TypeId) (m k x:Operand) (hc:ax P (.mapUpdate T m k x)=some n):Sub n (.mapUpdate T m k x):=by
 replace hc:bA P T m k x=some n:=hc
 unfold bA at hc
 repeat' split at hc
 all_goals first
  |(cases hc;done)
  |(cases hc;simp_all [Sub,opsOf,Op.operands];done)
theorem Gn (T:TypeId) (m k x:Operand) (hc:ax P (.insert T m k x)=some n):Sub n (.insert T m k x):=by
 replace hc:bA P T m k x=some n:=hc
 unfold bA at hc
 repeat' split at hc
 all_goals first
  |(cases hc;done)
  |(cases hc;simp_all [Sub,opsOf,Op.operands];done)
theorem rq (x:Operand) (X T:TypeId) (hc:ax P (.typeAssert x X T true)=some n):Sub n (.typeAssert x X T true):=by
 replace hc:jp P T x=some n:=hc
 unfold jp at hc
 repeat' split at hc
 all_goals first
  |(cases hc;done)
  |(rw[aj] at hc;cases hc;simp_all [Sub,opsOf,Op.operands];done)
theorem Ec (x:Operand) (i:Nat) (hc:ax P (.extract x i)=some n):Sub n (.extract x i):=by
 replace hc:gk x i=some n:=hc
 unfold gk at hc
 repeat' split at hc
 all_goals first
  |(cases hc;done)
  |(rw[aj] at hc;cases hc;simp_all [Sub,opsOf,Op.operands];done)
theorem Je (x:Operand) (hc:ax P (.panic x)=some n):Sub n (.panic x):=by
 replace hc:lq x=some n:=hc
 unfold lq at hc
 repeat' split at hc
 all_goals first
  |(cases hc;done)
  |(cases hc;simp_all [Sub,opsOf,Op.operands];done)
theorem N8  {dst:Nat} {x:Operand} (hx:aH x=some y) (hc:iT P src dst y=some n):Sub n (.convert src dst x):=by
 have key:opsOf n= [y]:=by
  unfold iT at hc
  repeat' split at hc
  all_goals first
   |(cases hc;done)
   |(cases hc;rfl)
   |(replace hc:=nd hc;cases hc;rfl)
   |(rw[aj] at hc;cases hc;rfl)
   |(replace hc:=(aP hc).2;cases hc;rfl)
 intro z hz
 rw[key] at hz
 simp at hz
 subst hz
 exact⟨x,by simp[Op.operands],hx⟩
theorem BA {b:Builtin} {args:List NOpd} {ts:List TypeId} (hc:di P b args ts=some n):∀y∈opsOf n,y∈args:=by
 unfold di at hc
 repeat' split at hc
 all_goals first
  |(cases hc;done)
  |(cases hc;simp[opsOf];done)
  |(rw[aj] at hc;cases hc;simp[opsOf];done)
  |(replace hc:=(aP hc).2;cases hc;done)
  |(replace hc:=(aP hc).2;rw[aj] at hc;cases hc;simp[opsOf];done)
theorem Xl {op:Op} (hc:ax P op=some n):Sub n op:=by
 cases op with
 |move x=>exact ME x hc
 |assign x=>exact FX x hc
 |pick c a b=>exact LD c a b hc
 |alloc T=>
  replace hc:lp P T=some n:=hc
  unfold lp at hc
  split at hc
  ·rw[aj] at hc;cases hc;intro y hy;cases hy
  ·cases hc
 |box T x=>exact Tx T x hc
 |build T ps=>
  replace hc:lh P T ps.toList=some n:=hc
  unfold lh at hc
  repeat' split at hc
  all_goals first
   |(cases hc;done)
   |(rename_i l hl;cases hc;intro y hy;obtain⟨u,a,b⟩:=te hl y hy;exact⟨u,by simpa [Op.operands] using a,b⟩)
 |buildSlice T len ps=>
  replace hc:dk P T len ps.toList=some n:=hc
  unfold dk at hc
  repeat' split at hc
  all_goals first
   |(cases hc;done)
   |(rename_i l hl;replace hc:=(aP hc).2;rw[fG,aj,aj] at hc;cases hc;intro y hy;obtain⟨u,a,b⟩:=te hl y hy;exact⟨u,by simpa [Op.operands] using a,b⟩)
 |load T x=>exact Ob T x hc
 |store T a x=>exact IP T a x hc
 |nilCheck x=>exact wq x hc
 |binOp op T x y T2=>exact I5 op T x y T2 hc
 |unOp op T x=>exact Kj op T x hc
 |convert src dst x=>
  replace hc:rJ P src dst x=some n:=hc
  unfold rJ at hc
  split at hc
  ·rename_i y hy;exact N8 hy hc
  ·cases hc
 |makeInterface T x=>exact mq T x hc
 |makeFunc fn first caps=>
  cases fn with
  |func f=>
   replace hc:pW f first.toList caps.toList=some n:=hc
   unfold pW at hc
   split at hc
   ·rename_i l h1 h2
    rw[aj] at hc;cases hc
    intro y hy
    obtain⟨u,a,b⟩:=qv h2 y hy
    exact⟨u,by simp[Op.operands,h1,a],b⟩
   ·cases hc
  |_=>have hc:(none:Option NOp)=some n:=hc;cases hc
 |makeMap T r=>
  cases r with
  |none=>cases hc;intro y hy;cases hy
  |some r=>have hc:(none:Option NOp)=some n:=hc;cases hc
 |makeSlice T l c=>exact sY T l c hc
 |slice T x lo hi mx=>
  cases mx with
  |none=>
   replace hc:ly P T x lo hi=some n:=hc
   unfold ly at hc
   split at hc
   ·rename_i hT hx hl hh
    cases hc
    intro y hy
    simp only[opsOf,adJ,aa6] at hy
    rcases hy with rfl|hy|hy
    ·exact⟨x,by simp[Op.operands],hx⟩
    ·obtain⟨u,a,b⟩:=lQ hl y hy;exact⟨u,by simp only[Op.operands];simp at a ⊢;simp[a],b⟩
    ·obtain⟨u,a,b⟩:=lQ hh y hy;exact⟨u,by simp only[Op.operands];simp at a ⊢;simp[a],b⟩
   ·rename_i hT hx hl hh
    split at hc
    ·cases hc
     intro y hy
     simp only[opsOf,adJ,aa6] at hy
     rcases hy with rfl|hy|hy
     ·exact⟨x,by simp[Op.operands],hx⟩
     ·obtain⟨u,a,b⟩:=lQ hl y hy;exact⟨u,by simp only[Op.operands];simp at a ⊢;simp[a],b⟩
     ·obtain⟨u,a,b⟩:=lQ hh y hy;exact⟨u,by simp only[Op.operands];simp at a ⊢;simp[a],b⟩
    ·cases hc
   ·cases hc
  |some mx=>
   cases lo with
   |none=>have hc:(none:Option NOp)=some n:=hc;cases hc
   |some lo=>
    cases hi with
    |none=>have hc:(none:Option NOp)=some n:=hc;cases hc
    |some hi=>
     replace hc:jc P T x lo hi mx=some n:=hc
     unfold jc at hc
     split at hc
     ·rename_i hT hx hl hh hm
      split at hc
      ·cases hc
      ·cases hc
     ·cases hc
 |fieldAddr s x f=>exact sV s x f hc
 |field s x f=>exact IE s x f hc
 |indexAddr T x i=>exact ta T x i hc
 |index T x i=>exact IX T x i hc
 |lookup T x i ok=>exact Gb T x i ok hc
 |mapUpdate T m k x=>exact sN T m k x hc
 |insert T m k x=>exact Gn T m k x hc
 |typeAssert x X T ok=>
  cases ok with
  |false=>have hc:(none:Option NOp)=some n:=hc;cases hc
  |true=>exact rq x X T hc
 |extract x i=>exact Ec x i hc
 |panic x=>exact Je x hc
 |call c=>
  obtain⟨callee,args,ats⟩:=c
  cases callee with
  |value f=>
   replace hc:rU f args.toList=some n:=hc
   unfold rU at hc
   split at hc
   ·rename_i hf hl
    cases hc
    intro y hy
    rcases aa1.1 hy with rfl|hy
    ·exact⟨f,by simp[Op.operands,Call.operands],hf⟩
    ·obtain⟨u,a,b⟩:=qv hl y hy
     exact⟨u,by simp[Op.operands,Call.operands];right;simpa using a,b⟩
   ·cases hc
  |builtin b=>
   replace hc:gu P b args.toList ats.toList=some n:=hc
   unfold gu at hc
   split at hc
   ·rename_i l hl
    intro y hy
    obtain⟨u,a,b⟩:=qv hl y (BA hc y hy)
    exact⟨u,by simp[Op.operands,Call.operands];simpa using a,b⟩
   ·cases hc
  |invoke r m=>have hc:(none:Option NOp)=some n:=hc;cases hc
 |defer c=>
  obtain⟨callee,args,ats⟩:=c
  cases callee with
  |value f=>
   replace hc:gO f args.toList=some n:=hc
   unfold gO at hc
   split at hc
   ·rename_i y h1 hf
    cases hc
    intro z hz
    simp only[opsOf,ac0] at hz
    subst hz
    exact⟨f,by simp[Op.operands,Call.operands],hf⟩
   ·cases hc
  |builtin b=>have hc:(none:Option NOp)=some n:=hc;cases hc
  |invoke r m=>have hc:(none:Option NOp)=some n:=hc;cases hc
 |_=>have hc:(none:Option NOp)=some n:=hc;cases hc
theorem Su {x:Operand} {k:Nat} (hc:aH x=some (.tmp (D4.of k))):x= .tmp k:=by
 cases x with
 |tmp j=>
  have hc':(D4.ofNat j λt=>some (NOpd.tmp t))=some (.tmp (D4.of k)):=hc
  rw[D4.ofNat_eq] at hc'
  injection hc' with hc'
  injection hc' with hc'
  rw[D4.of_inj hc']
 |const v=>
  have hc':(match ofValue v with|some v=>some (NOpd.const v)|none=>none)=some (.tmp (D4.of k)):=hc
  split at hc'<;>cases hc'
 |func f=>
  have hc':(aG f λf=>some (NOpd.const (.fn f [])))=some (.tmp (D4.of k)):=hc
  rw[aj] at hc';cases hc'
 |global g=>
  have hc':(cond (Nat.ble (Nat.succ g) NG) (D4.ofNat g λg=>some (NOpd.const (.ptr g 0))) none)=some (.tmp (D4.of k)):=hc
  rw[D4.ofNat_eq] at hc'
  cases hb:Nat.ble (Nat.succ g) NG<;>rw[hb] at hc'<;>cases hc'
theorem TK {op:Op} (hc:ax P op=some n) {k:Nat} (hk:NOpd.tmp (D4.of k)∈opsOf n):Operand.tmp k∈op.operands.toList:=by
 obtain⟨x,h1,h2⟩:=Xl hc _ hk
 rw[←Su h2];exact h1
end
open Go
theorem Fj  {m:String} (h:CheckCode.require b m= .ok ()):b=true:=by
 unfold CheckCode.require at h
 cases b with
 |true=>rfl
 |false=>cases h
theorem bQ  {x:Except String α} {f:α->Except String β} {r:β} (h:(x>>=f)= .ok r):∃a,x= .ok a/\f a= .ok r:=by
 cases x with
 |error e=>cases h
 |ok a=>exact⟨a,rfl,h⟩
theorem vw  {f:α->Except String PUnit}:∀{l:List α},l.forM f= .ok ()->∀a∈l,f a= .ok ():=by
 intro l
 induction l with
 |nil=>intro _ a ha;cases ha
 |cons b l ih=>
  intro h a ha
  have h':(f b>>=λ_=>l.forM f)= .ok ():=h
  obtain⟨u,h1,h2⟩:=bQ h'
  rcases aa1.1 ha with rfl|ha
  ·exact h1
  ·exact ih h2 a ha
theorem AI  {f:String->String} {x:Except String α} {r:α} (h:x.mapError f= .ok r):x= .ok r:=by
 cases x with
 |error e=>cases h
 |ok a=>exact h
theorem aaL  (f:α->Except String PUnit) (l:List α):Array.forM f l.toArray=l.forM f:=by simp
structure RegOK (P:Program) (fn:Func) (ops:Array Oper):Prop where
 dst:∀(i:Nat) (o:Oper) (d:Nat),ops[i]? =some o->o.dst=some d->d<fn.ntmps
 edge:∀(i:Nat) (o:Oper) (e:Edge),ops[i]? =some o->e∈o.after.toList->Region.binds .any e=true->e.on<i
 guard:∀(i:Nat) (o:Oper) (j:Nat) (b:Bool),ops[i]? =some o->o.guard=some (j,b)->(∃e∈o.after.toList,e.on=j/\Region.binds .any e=true)/\∃(oj:Oper) (d:Nat),ops[j]? =some oj/\oj.dst=some d
 tmps:Region.temporariesOk ops (Region.before ops)=true
section
variable {P:Program} {fn:Func} {bl la:List Nat}
theorem Ow  {b:Code} (h:CheckCode.code P fn bl la (.seq a b)= .ok ()):CheckCode.code P fn bl la a= .ok ()/\CheckCode.code P fn bl la b= .ok ():=by
 unfold CheckCode.code at h
 obtain⟨_,h1,h2⟩:=bQ h
 exact⟨h1,h2⟩
theorem JE {c:Operand} {b:Code} (h:CheckCode.code P fn bl la (.cond c a b)= .ok ()):CheckCode.code P fn bl la a= .ok ()/\CheckCode.code P fn bl la b= .ok ():=by
 unfold CheckCode.code at h
 obtain⟨_,_,h⟩:=bQ h
 obtain⟨_,h1,h2⟩:=bQ h
 exact⟨h1,h2⟩
theorem Fa {id:Nat} (h:CheckCode.code P fn bl la (.block id a)= .ok ()):CheckCode.code P fn (id::bl) la a= .ok ():=by
 unfold CheckCode.code at h;exact h
theorem Is  (h:CheckCode.code P fn bl la (.loop a)= .ok ()):CheckCode.code P fn bl la a= .ok ():=by
 unfold CheckCode.code at h;exact h
theorem FM {f:Operand} {ps:Array Nat} {b:Code} (h:CheckCode.code P fn bl la (.rangeFunc f ps a b)= .ok ()):
 (∀t∈ps.toList,t<fn.ntmps)/\CheckCode.code P fn [] [] a= .ok ()/\CheckCode.code P fn bl la b= .ok ():=by
 unfold CheckCode.code at h
 obtain⟨_,_,h⟩:=bQ h
 obtain⟨_,h1,h⟩:=bQ h
 obtain⟨_,_,h⟩:=bQ h
 obtain⟨_,h2,h3⟩:=bQ h
 refine⟨λt ht=> ?_,h2,h3⟩
 rw[show ps=ps.toList.toArray by simp,aaL] at h1
 have:=Fj (vw h1 t ht)
 simpa using this
theorem oS {id:Nat} {draw:Bool} (h:CheckCode.code P fn bl la (.region id ops draw)= .ok ()):RegOK P fn ops:=by
 unfold CheckCode.code at h
 unfold CheckCode.region at h
 obtain⟨_,h1,h⟩:=bQ h
 obtain⟨_,_,h⟩:=bQ h
 have hok:=Fj h
 unfold Region.ok at hok
 simp only[ab6] at hok
 obtain⟨⟨⟨⟨hedge,htmp⟩,_⟩,_⟩,_⟩:=hok
 have hmem:∀i o,ops[i]? =some o->(o,i)∈ops.zipIdx/\(o,i)∈ops.toList.zipIdx:=λi o ho=>by
  have hlt:=(Array.getElem?_eq_some_iff.1 ho).1
  have he:=(Array.getElem?_eq_some_iff.1 ho).2
  constructor
  ·rw[Array.mem_zipIdx_iff_getElem?];exact ho
  ·rw[List.mem_zipIdx_iff_getElem?];simpa using ho
 refine⟨?_, ?_, ?_,htmp⟩
 ·intro i o d ho hd
  have:=vw h1 (o,i) (hmem i o ho).2
  dsimp only at this
  rw[hd] at this
  obtain⟨_,h2,_⟩:=bQ this
  have:=Fj h2
  simpa using this
 ·intro i o e ho he hb
  rw[Array.all_eq_true'] at hedge
  have:=hedge (o,i) (hmem i o ho).1
  simp only[ab6] at this
  have h2:=this.1
  rw[Array.all_eq_true'] at h2
  have h3:=h2 e (by simpa using he)
  rw[Bool.or_eq_true] at h3
  rcases h3 with h3|h3
  ·simpa using h3
  ·unfold Region.binds at hb
   split at h3
   ·rename_i hg;rw[hg] at hb;cases hb
   ·cases h3
 ·intro i o j b ho hg
  rw[Array.all_eq_true'] at hedge
  have:=hedge (o,i) (hmem i o ho).1
  simp only[ab6] at this
  have h2:=this.2
  rw[hg] at h2
  simp only[ab6] at h2
  obtain⟨h3,h4⟩:=h2
  rw[Array.any_eq_true'] at h3
  obtain⟨e,e1,e2⟩:=h3
  simp only[ab6,beq_iff_eq] at e2
  refine⟨⟨e,by simpa using e1,e2.1,e2.2⟩, ?_⟩
  rw[Option.isSome_iff_exists] at h4
  obtain⟨d,hd⟩:=h4
  rw[Option.bind_eq_some_iff] at hd
  obtain⟨oj,q1,q2⟩:=hd
  exact⟨oj,d,q1,q2⟩
end
theorem GX  {p:List α->Prop} (h0:p []) (h1:∀l a,p l->p (l++ [a])):∀l,p l:=by
 intro l
 have h:p l.reverse.reverse:=by
  induction l.reverse with
  |nil=>exact h0
  |cons a m ih=>rw[List.reverse_cons];exact h1 _ _ ih
 simpa using h
def dG {α β:Type} (g:Array β->α->β) (l:List α):Array β:=l.foldl (λacc a=>acc.push (g acc a)) #[]
theorem cW  (g:Array β->α->β) (l:List α) (a:α):dG g (l++ [a])=(dG g l).push (g (dG g l) a):=by simp[dG]
theorem sM  (g:Array β->α->β) (l:List α):(dG g l).size=l.length:=by
 induction l using GX with
 |h0=>rfl
 |h1 l a ih=>rw[cW];simp[ih]
theorem lO  (g:Array β->α->β) (l:List α) (i:Nat) (a:α) (h:l[i]? =some a):
 ∃acc:Array β,(dG g l)[i]? =some (g acc a)/\acc.size=i/\∀j,j<i->acc[j]? =(dG g l)[j]? :=by
 induction l using GX with
 |h0=>simp at h
 |h1 l b ih=>
  have hs:=sM g l
  by_cases hi:i<l.length
  ·rw[List.getElem?_append_left hi] at h
   obtain⟨acc,h1,h2,h3⟩:=ih h
   refine⟨acc, ?_,h2,λj hj=> ?_⟩
   ·rw[cW,Array.getElem?_push,adE (by omega)];exact h1
   ·rw[cW,Array.getElem?_push,adE (by omega)];exact h3 j hj
  ·have hlt:=(List.getElem?_eq_some_iff.1 h).1
   simp at hlt
   have hil:i=l.length:=by omega
   subst hil
   have:b=a:=by simpa using h
   subst this
   refine⟨dG g l, ?_,hs,λj hj=> ?_⟩
   ·rw[cW,Array.getElem?_push,adF hs.symm]
   ·rw[cW,Array.getElem?_push,adE (by omega)]
def Es (ops:Array Oper) (i:Nat):Nat:=(Region.before ops).getD i 0
theorem mW (ops:Array Oper):Region.before ops=dG (λacc (o:Oper)=>o.after.foldl (λs e=>if Region.binds .any e then s|||2 ^ e.on|||acc.getD e.on 0 else s) 0) ops.toList:=by
 unfold Region.before dG
 rw[←Array.foldl_toList]
theorem KI (f:Nat->Nat) (b:Edge->Bool) (j:Nat):∀(l:List Edge) (s:Nat),(l.foldl (λs e=>if b e then s|||2 ^ e.on|||f e.on else s) s).testBit j=true->
 s.testBit j=true∨∃e∈l,b e=true/\(e.on=j∨(f e.on).testBit j=true):=by
 intro l
 induction l with
 |nil=>intro s h;exact .inl h
 |cons e l ih=>
  intro s h
  rw[List.foldl_cons] at h
  rcases ih _ h with h|⟨e',h1,h2,h3⟩
  ·by_cases hb:b e=true
   ·rw[adF hb] at h
    rw[Nat.testBit_or,Nat.testBit_or,Bool.or_eq_true,Bool.or_eq_true] at h
    rcases h with (h|h)|h
    ·exact .inl h
    ·rw[Nat.testBit_two_pow] at h
     exact .inr ⟨e,by simp,hb,.inl (by simpa using h)⟩
    ·exact .inr ⟨e,by simp,hb,.inr h⟩
   ·rw[adE hb] at h;exact .inl h
  ·exact .inr ⟨e',by simp[h1],h2,h3⟩
theorem RX  {o:Oper} (ho:ops[i]? =some o) {j:Nat} (h:(Es ops i).testBit j=true):
 ∃e∈o.after.toList,Region.binds .any e=true/\(e.on=j∨(e.on<i/\(Es ops e.on).testBit j=true)):=by
 unfold Es at h
 rw[mW] at h
 obtain⟨acc,h1,h2,h3⟩:=lO (λacc (o:Oper)=>o.after.foldl (λs e=>if Region.binds .any e then s|||2 ^ e.on|||acc.getD e.on 0 else s) 0) ops.toList i o (by simpa using ho)
 rw[Array.getD_eq_getD_getElem?,h1] at h
 simp only[ae5] at h
 rw[←Array.foldl_toList] at h
 rcases KI (λk=>acc.getD k 0) (Region.binds .any) j o.after.toList 0 h with h|⟨e,e1,e2,e3⟩
 ·simp at h
 ·refine⟨e,e1,e2, ?_⟩
  rcases e3 with e3|e3
  ·exact .inl e3
  ·right
   by_cases hlt:e.on<i
   ·refine⟨hlt, ?_⟩
    unfold Es
    rw[mW,Array.getD_eq_getD_getElem?,←h3 _ hlt,←Array.getD_eq_getD_getElem?];exact e3
   ·rw[Array.getD_eq_getD_getElem?,Array.getElem?_eq_none (by omega)] at e3
    simp at e3
def dr (ops:Array Oper) (X:Nat->Prop) (i:Nat):Prop:=∀o,ops[i]? =some o->∀e∈o.after.toList,Region.binds .any e=true->X e.on
theorem WO  {fn:Func} (hr:RegOK P fn ops) {X:Nat->Prop} (hX:∀i,X i->dr ops X i):∀(i:Nat) (o:Oper),ops[i]? =some o->dr ops X i->∀j,(Es ops i).testBit j=true->X j:=by
 intro i
 induction i using Nat.strongRecOn with
 |_ i ih=>
  intro o ho he j hj
  obtain⟨e,e1,e2,e3⟩:=RX ho hj
  have hx:=he o ho e e1 e2
  rcases e3 with rfl|⟨e3,e4⟩
  ·exact hx
  ·have hlt:=hr.edge i o e ho e1 e2
   have hsz:e.on<ops.size:=Nat.lt_trans hlt (Array.getElem?_eq_some_iff.1 ho).1
   exact ih e.on hlt ops[e.on] (Array.getElem?_eq_getElem hsz) (hX _ hx) j e4
def cg (ops:Array Oper) (listed:Array Bool):List Nat:=
 (List.range ops.size).filter λi=> !listed.getD i true&&((ops[i]?).map (·.after.all λe=> !Region.binds .any e||listed.getD e.on false)).getD false
theorem Ra (ops:Array Oper) (t:Nat) (listed:Array Bool):Region.linearise.go .any ops 0 t listed []= []:=by simp[Region.linearise.go]
theorem Wn (ops:Array Oper):∀(fuel t:Nat) (listed:Array Bool) (acc:List Nat),Region.linearise.go .any ops fuel t listed acc=acc.reverse++Region.linearise.go .any ops fuel t listed []:=by
 intro fuel
 induction fuel with
 |zero=>intro t listed acc;simp[Region.linearise.go]
 |succ fuel ih=>
  intro t listed acc
  simp only[Region.linearise.go]
  split
  ·rename_i i _
   rw[ih _ _ (i::acc),ih _ _ [i]]
   simp
  ·simp
theorem RT (ops:Array Oper) (fuel t:Nat) (listed:Array Bool):
 (cg ops listed= []/\Region.linearise.go .any ops (fuel+1) t listed []= [])∨
 ∃i t',i∈cg ops listed/\Region.linearise.go .any ops (fuel+1) t listed []=i::Region.linearise.go .any ops fuel t' (listed.setIfInBounds i true) []:=by
 simp only[Region.linearise.go]
 change (cg ops listed= []/\(match (cg ops listed)[t % (cg ops listed).length]? with
  |some i=>Region.linearise.go .any ops fuel (t / (cg ops listed).length) (listed.setIfInBounds i true) [i]
  |none=> [].reverse)= [])∨∃i t',i∈cg ops listed/\(match (cg ops listed)[t % (cg ops listed).length]? with
  |some i=>Region.linearise.go .any ops fuel (t / (cg ops listed).length) (listed.setIfInBounds i true) [i]
  |none=> [].reverse)=i::Region.linearise.go .any ops fuel t' (listed.setIfInBounds i true) []
 cases hi:(cg ops listed)[t % (cg ops listed).length]? with
 |none=>
  left
  refine⟨?_,rfl⟩
  cases hr:cg ops listed with
  |nil=>rfl
  |cons x xs=>
   rw[hr] at hi
   have hlt:t % (x::xs).length<(x::xs).length:=Nat.mod_lt _ (by simp)
   simp at hi
   simp at hlt
   omega
 |some i=>
  right
  refine⟨i,t / (cg ops listed).length,List.mem_of_getElem? hi, ?_⟩
  dsimp only
  rw[Wn];simp
def jR (ops:Array Oper) (listed:Array Bool):List Nat:=(List.range ops.size).filter λi=> !listed.getD i true
theorem RI {p q:Nat->Bool}:∀{l:List Nat},(∀i∈l,q i=true->p i=true)->∀i∈l,p i=true->q i=false->(l.filter q).length<(l.filter p).length:=by
 intro l
 induction l with
 |nil=>intro _ i hi;cases hi
 |cons a l ih=>
  intro hpq i hi hp hq
  have hle:(l.filter q).length<=(l.filter p).length:=by
   clear ih hi
   have hpq':∀i∈l,q i=true->p i=true:=λi hi=>hpq i (by simp[hi])
   clear hpq
   induction l with
   |nil=>simp
   |cons b l ih2=>
    have:=ih2 λi hi=>hpq' i (by simp[hi])
    rw[List.filter_cons,List.filter_cons]
    by_cases hqb:q b=true
    ·rw[adF hqb,adF (hpq' b (by simp) hqb)];simpa using this
    ·rw[adE hqb]
     split
     ·simp;omega
     ·exact this
  rcases aa1.1 hi with rfl|hi
  ·rw[List.filter_cons,List.filter_cons,adF hp,adE (by simp[hq])]
   simp;omega
  ·have:=ih (λj hj=>hpq j (by simp[hj])) i hi hp hq
   rw[List.filter_cons,List.filter_cons]
   by_cases hqa:q a=true
   ·rw[adF hqa,adF (hpq a (by simp) hqa)];simpa using this
   ·rw[adE hqa]
    split
    ·simp;omega
    ·exact this
theorem FH  {fn:Func} (hr:RegOK P fn ops) (hs:listed.size=ops.size) (h:cg ops listed= []):∀i,i<ops.size->listed[i]? =some true:=by
 intro i
 induction i using Nat.strongRecOn with
 |_ i ih=>
  intro hi
  rw[Array.getElem?_eq_getElem (by omega)]
  cases hl:listed[i]'(by omega) with
  |true=>rfl
  |false=>
   have hm:i∈cg ops listed:=by
    unfold cg
    rw[List.mem_filter]
    refine⟨by simpa using hi, ?_⟩
    rw[ab6]
    constructor
    ·rw[Array.getD_eq_getD_getElem?,Array.getElem?_eq_getElem (by omega)];simp[hl]
    ·rw[Array.getElem?_eq_getElem hi]
     simp only[Option.map_some,ae5]
     rw[Array.all_eq_true']
     intro e he
     cases hb:Region.binds .any e with
     |false=>rfl
     |true=>
      have hlt:=hr.edge i ops[i] e (Array.getElem?_eq_getElem hi) (by simpa using he) hb
      have:=ih e.on hlt (by omega)
      rw[Array.getD_eq_getD_getElem?,this];rfl
   rw[h] at hm;cases hm
theorem Ix  (h:i∈cg ops listed):∃o,ops[i]? =some o/\listed.getD i true=false/\∀e∈o.after.toList,Region.binds .any e=true->listed[e.on]? =some true:=by
 unfold cg at h
 rw[List.mem_filter] at h
 obtain⟨h1,h2⟩:=h
 rw[ab6] at h2
 have hi:i<ops.size:=by simpa using h1
 refine⟨ops[i],Array.getElem?_eq_getElem hi,by simpa using h2.1,λe he hb=> ?_⟩
 have h3:=h2.2
 rw[Array.getElem?_eq_getElem hi] at h3
 simp only[Option.map_some,ae5] at h3
 rw[Array.all_eq_true'] at h3
 have:=h3 e (by simpa using he)
 rw[hb] at this
 simp only[Bool.not_true,Bool.false_or] at this
 rw[Array.getD_eq_getD_getElem?] at this
 cases hq:listed[e.on]? with
 |none=>rw[hq] at this;cases this
 |some b=>rw[hq] at this;simp at this;rw[this]
open Go
def aN (d:Option D4) (v:NV) (t:Tm):Tm:=match d with|some k=>NT.put k v t|none=>t
theorem dQ  (d:Option D4) (v:NV) (t:Tm) (K:Tm->R):jY d v t K=K (aN d v t):=by
 cases d with
 |none=>rfl
 |some k=>exact NT.set_eq _ _ _ _
def DR (ι:aZ):List Dfr->List Deferred->Prop
 | [], []=>True
 | .call f cap::l,d::l'=>(∃cap',VRL ι cap cap'/\d={target:= .fn (.func f) cap'.toArray,args:=#[]})/\DR ι l l'
 | .mark id::l,d::l'=>(∃p,ι id=some p/\d={target:= .collected p.b,args:=#[]})/\DR ι l l'
 |_,_=>False
theorem DR.mono  (hι:ι.le ι'):∀{l:List Dfr} {l':List Deferred},DR ι l l'->DR ι' l l'
 | [], [],_=>trivial
 | [],_::_,h=>h
 | .call _ _::_, [],h=>h
 | .mark _::_, [],h=>h
 | .call _ _::_,_::_,⟨⟨c,h1,h2⟩,h3⟩=>⟨⟨c,h1.mono hι,h2⟩,DR.mono hι h3⟩
 | .mark _::_,_::_,⟨⟨p,h1,h2⟩,h3⟩=>⟨⟨p,hι _ _ h1,h2⟩,DR.mono hι h3⟩
def EJ (ι:aZ) (kind:CallKind) (cs:List Frame):Option NV->Prop
 |none=>∀b:Frame,b.kind=kind->tryRecover b cs=none
 |some v=>kind= .deferred/\∃(c:Frame) (rest:List Frame) (v':Value) (older:List PanicEntry),cs=c::rest/\c.mode= .panicking ({v:=v',recovered:=false}::older)/\VR ι v v'
theorem EJ.mono  (hι:ι.le ι') {k:CallKind} {cs:List Frame} {x:Option NV} (h:EJ ι k cs x):EJ ι' k cs x:=by
 cases x with
 |none=>exact h
 |some v=>obtain⟨h1,c,r,v',o,h2,h3,h4⟩:=h;exact⟨h1,c,r,v',o,h2,h3,h4.mono hι⟩
def qj (cs:List Frame) (x:Option NV) (cs':List Frame) (x':Option NV):Prop:=
 (cs'=cs/\x'=x)∨(x'=none/\x≠none/\∃(c:Frame) (rest:List Frame) (v':Value) (older:List PanicEntry),cs=c::rest/\c.mode= .panicking ({v:=v',recovered:=false}::older)/\
  cs'={c with mode:= .panicking ({v:=v',recovered:=true}::older)}::rest)
theorem qj.refl (cs:List Frame) (x:Option NV):qj cs x cs x:= .inl ⟨rfl,rfl⟩
theorem qj.trans {a b c:List Frame} {x y z:Option NV} (h:qj a x b y) (k:qj b y c z):qj a x c z:=by
 rcases h with⟨rfl,rfl⟩|⟨rfl,h1,h2⟩
 ·exact k
 ·rcases k with⟨rfl,rfl⟩|⟨_,k1,_⟩
  ·exact .inr ⟨rfl,h1,h2⟩
  ·exact adD rfl k1
theorem qj.none {a b:List Frame} {y:Option NV} (h:qj a none b y):b=a/\y=Option.none:=by
 rcases h with⟨rfl,rfl⟩|⟨_,h,_⟩
 ·exact⟨rfl,rfl⟩
 ·exact adD rfl h
def RnR (ι:aZ):Option D4->Option Nat->Prop
 |none,r=>r=none
 |some l,r=>∃p,ι l=some p/\r=some p.b
theorem RnR.mono  (hι:ι.le ι') {l:Option D4} {r:Option Nat} (h:RnR ι l r):RnR ι' l r:=by
 cases l with
 |none=>exact h
 |some l=>obtain⟨p,h1,h2⟩:=h;exact⟨p,hι _ _ h1,h2⟩
structure Sd (P:Program) (ι:aZ) (B:Nat) (rnd:Option D4) (dfs:List Dfr) (ctx:Option NV) (h:NH) (b:Frame) (ds:List Deferred) (cs:List Frame) (w:World):Prop where
 df:DR ι dfs ds
 cx:EJ ι b.kind cs ctx
 rel:Rel P ι B h w
 base:B<=w.heap.size
 rn:RnR ι rnd b.roundOf
structure Mv (P:Program) (B:Nat) (rnd:Option D4) (b:Frame) (ι:aZ) (ctx:Option NV) (h:NH) (cs:List Frame) (w:World) (ι':aZ) (dfs':List Dfr) (ctx':Option NV) (h':NH) (ds':List Deferred) (cs':List Frame) (w':World):Prop where
 sd:Sd P ι' B rnd dfs' ctx' h' b ds' cs' w'
 gr:Grow ι h w ι' h' w'
 ca:qj cs ctx cs' ctx'
theorem Mv.refl  {b:Frame} {dfs:List Dfr} {ds:List Deferred} {cs:List Frame} (s:Sd P ι B rnd dfs ctx h b ds cs w):
 Mv P B rnd b ι ctx h cs w ι dfs ctx h ds cs w:=⟨s,.refl _ _ _,.refl _ _⟩
theorem Mv.trans  {b:Frame} {ι1 ι2:aZ} {dfs1 dfs2:List Dfr} {ctx1 ctx2:Option NV} {h1 h2:NH} {ds1 ds2:List Deferred} {cs cs1 cs2:List Frame} {w1 w2:World}
 (x:Mv P B rnd b ι ctx h cs w ι1 dfs1 ctx1 h1 ds1 cs1 w1) (y:Mv P B rnd b ι1 ctx1 h1 cs1 w1 ι2 dfs2 ctx2 h2 ds2 cs2 w2):Mv P B rnd b ι ctx h cs w ι2 dfs2 ctx2 h2 ds2 cs2 w2:=
 ⟨y.sd,x.gr.trans y.gr,x.ca.trans y.ca⟩
inductive OpO where
 |fail
 |next (v:NV) (dfs:List Dfr) (ctx:Option NV) (h:NH)
 |pan (v:NV) (h:NH)
section
variable (P:Program) (S:cE) (self:Option D4->NC->Dyn->Res)
def Eo (dfs:List Dfr) (ctx:Option NV):CR->OpO
 | .val v _ h=> .next v dfs ctx h
 | .pan v _ h=> .pan v h
 | .fail=> .fail
def eD (rnd:Option D4) (dfs:List Dfr) (ctx:Option NV) (h:NH):NR->OpO
 | .fail=> .fail
 | .val v=> .next v dfs ctx h
 | .mem v h=> .next v dfs ctx h
 | .call f args=>Eo dfs ctx (bZ P S self f args h)
 | .yld l args=>Eo dfs ctx (round self l args h)
 | .pan v=> .pan v h
 | .dfr f cap=>match rnd with|none=> .next aK (.call f cap::dfs) ctx h|some _=> .fail
 | .recov=>match rnd,ctx with
  |none,some v=> .next v dfs none h
  |none,none=> .next .nili dfs none h
  |some _,_=> .fail
def ER (dst:Option D4) (K:Dyn->Res) (t:Tm) (dfs:List Dfr) (ctx:Option NV):OpO->Res
 | .fail=> .fail
 | .next v dfs ctx h=>K ⟨aN dst v t,dfs,ctx,h⟩
 | .pan v h=> .mk (.pan v) ⟨t,dfs,ctx,h⟩
theorem tQ (rnd:Option D4) (dst:Option D4) (K:Dyn->Res) (t:Tm) (dfs:List Dfr) (ctx:Option NV) (h:NH) (r:NR):
 qL P S self rnd dst K t dfs ctx h r=ER dst K t dfs ctx (eD P S self rnd dfs ctx h r):=by
 cases r with
 |fail=>rfl
 |val v=>exact dQ dst v t λt=>K ⟨t,dfs,ctx,h⟩
 |mem v h=>exact dQ dst v t λt=>K ⟨t,dfs,ctx,h⟩
 |call f args=>
  show pz dst K t dfs ctx (bZ P S self f args h)=ER dst K t dfs ctx (Eo dfs ctx (bZ P S self f args h))
  cases bZ P S self f args h with
  |fail=>rfl
  |val v c h=>exact dQ dst v t λt=>K ⟨t,dfs,ctx,h⟩
  |pan v c h=>rfl
 |yld l args=>
  show pz dst K t dfs ctx (round self l args h)=ER dst K t dfs ctx (Eo dfs ctx (round self l args h))
  cases round self l args h with
  |fail=>rfl
  |val v c h=>exact dQ dst v t λt=>K ⟨t,dfs,ctx,h⟩
  |pan v c h=>rfl
 |pan v=>rfl
 |dfr f cap=>cases rnd with|none=>exact dQ dst aK t λt=>K ⟨t,.call f cap::dfs,ctx,h⟩|some l=>rfl
 |recov=>
  cases rnd with
  |none=>
   cases ctx with
   |none=>exact dQ dst .nili t λt=>K ⟨t,dfs,none,h⟩
   |some v=>exact dQ dst v t λt=>K ⟨t,dfs,none,h⟩
  |some l=>rfl
end
def tD (P:Program) (ι:aZ) (B:Nat) (h:NH) (w:World) (s:Result Next):CR->Prop
 | .fail=>True
 | .val v _ h'=>∀(c:Frame) (cs:List Frame),∃ι' v' w',VR ι' v v'/\Rel P ι' B h' w'/\B<=w'.heap.size/\Grow ι h w ι' h' w'/\
  (s= .ok (.value v') w'∨∃w1,((∃f args,s= .ok (.enter f args) w1/\Steps P (lone (Frame.enter P f args .normal) (c::cs) w1) (lone (c.finish v') cs w'))∨
   (∃l f tm x y,s= .ok (.round l f tm x y) w1/\Steps P (lone (Frame.round l f tm x y .normal) (c::cs) w1) (lone (c.finish v') cs w'))))
 | .pan v _ h'=>∀(c:Frame) (cs:List Frame),∃ι' v' w',VR ι' v v'/\Rel P ι' B h' w'/\B<=w'.heap.size/\Grow ι h w ι' h' w'/\
  ∃w1,((∃f args,s= .ok (.enter f args) w1/\Steps P (lone (Frame.enter P f args .normal) (c::cs) w1) (lone (c.raise [{v:=v',recovered:=false}]) cs w'))∨
   (∃l f tm x y,s= .ok (.round l f tm x y) w1/\Steps P (lone (Frame.round l f tm x y .normal) (c::cs) w1) (lone (c.raise [{v:=v',recovered:=false}]) cs w')))
structure CallsOK (P:Program) (S:cE) (go:Option D4->NC->Dyn->Res):Prop where
 call:∀(ι:aZ) (B:Nat) (h:NH) (w:World) (f:Nat) (args:List NV) (args':List Value),Rel P ι B h w->B<=w.heap.size->VRL ι args args'->
  tD P ι B h w ((callFunc f args'.toArray).run P w) (bZ P S go f args h)
 yld:∀(ι:aZ) (B:Nat) (h:NH) (w:World) (l:D4) (p:Pl) (args:List NV) (args':List Value),Rel P ι B h w->B<=w.heap.size->VRL ι args args'->ι l=some p->
  tD P ι B h w ((Instr.yield p.b args'.toArray).run P w) (round go l args h)
section
variable {P:Program} {S:cE} {self:Option D4->NC->Dyn->Res} {B:Nat} {b:Frame} {a:Act} {k:List Item} {cs:List Frame} {w:World} {ops:Array Oper}
theorem eX {ro:Option Nat} {e:Operand->Value} {o:Oper} (h:ro=none∨∀c,o.op≠.defer c):Oper.semAt ro e o=execOp e o:=by
 rcases h with rfl|h
 ·rfl
 ·exact Oper.semAt_eq _ _ _ h
theorem sO (b:Frame) (a:Act) (todo:List Item) (cs:List Frame) (x:Frame) (hx:x.kind=b.kind):tryRecover (b.atR a todo) cs=tryRecover x cs:=by
 cases cs with
 |nil=>unfold tryRecover;cases b;cases x;simp only at hx;subst hx;rfl
 |cons c r=>unfold tryRecover;cases b;cases x;simp only at hx;subst hx;rfl
theorem fS (hC:CallsOK P S self) {dfs:List Dfr} {rest:List Nat} {o:Oper} (ho:ops[i]? =some o) (hw:Region.wanted o (yielded ops a.tmps)=true) (hc:ax P o.op=some n) (hO:OE ι t a.eval)
 (s:Sd P ι B rnd dfs ctx h b a.defers cs w):
 match eD P S self rnd dfs ctx h (ai n t h) with
 | .fail=>True
 | .next v dfs' ctx' h'=>∃(v':Value) (ι':aZ) (ds':List Deferred) (cs':List Frame) (w':World),
  Steps P (lone (b.atR a (.inRegion ops (i::rest)::k)) cs w) (lone (b.atR (({a with defers:=ds'}:Act).put o.dst v') (.inRegion ops rest::k)) cs' w')/\VR ι' v v'/\Mv P B rnd b ι ctx h cs w ι' dfs' ctx' h' ds' cs' w'
 | .pan v h'=>∃(v':Value) (ι':aZ) (w':World) (todo:List Item),
  Steps P (lone (b.atR a (.inRegion ops (i::rest)::k)) cs w) (lone {b.atR a todo with mode:= .panicking [{v:=v',recovered:=false}]} cs w')/\VR ι' v v'/\Mv P B rnd b ι ctx h cs w ι' dfs ctx h' a.defers cs w':=by
 have hop:=Mo (o:=o) hc hO s.rel s.base
 have hg:=stepGR_op (P:=P) (b:=b) (k:=k) (cs:=cs) (w:=w) (rest:=rest) ho hw
 have hfin:∀v,(b.atR a (.inRegion ops (i::rest)::k)).finish v=b.atR (a.put o.dst v) (.inRegion ops rest::k):=by
  intro v;rw[Frame.finish_atR,ho];rfl
 have same:∀{ι':aZ} {h':NH} {w':World},Rel P ι' B h' w'->B<=w'.heap.size->Grow ι h w ι' h' w'->Mv P B rnd b ι ctx h cs w ι' dfs ctx h' a.defers cs w':=
  λhr hb hgr=>⟨⟨s.df.mono hgr.le,s.cx.mono hgr.le,hr,hb,s.rn.mono hgr.le⟩,hgr,.refl _ _⟩
 have nodef:(∀f cap,ai n t h≠.dfr f cap)->ai n t h≠.fail->∀c,o.op≠.defer c:=by
  intro h1 h2 c hd
  rw[hd] at hc
  obtain⟨callee,args,ats⟩:=c
  cases callee with
  |value f=>
   replace hc:gO f args.toList=some n:=hc
   unfold gO at hc
   split at hc
   ·rename_i y h3 hf
    cases hc
    have e1:ai (.defer y) t h=wV t y λf=>match f with| .fn f cap=> .dfr f cap|_=> .fail:=rfl
    obtain⟨v,h4,h5⟩:=aT e1.symm h2
    rw[←h5] at h1 h2
    cases v<;>first|exact adD rfl h2|exact h1 _ _ rfl
   ·cases hc
  |builtin b=>have hc:(none:Option NOp)=some n:=hc;cases hc
  |invoke r m=>have hc:(none:Option NOp)=some n:=hc;cases hc
 cases hr:ai n t h with
 |fail=>trivial
 |val v=>
  rw[hr] at hop
  obtain⟨v',h1,h2⟩:=hop
  rw[eX (.inr (nodef (by rw[hr];simp) (by rw[hr];simp)))] at hg
  refine⟨v',ι,a.defers,cs,w,.one (step_lone_go ?_),h2,Mv.refl s⟩
  rw[hg,←hfin];simp[stepG.apply,h1]
 |mem v h'=>
  rw[hr] at hop
  obtain⟨v',w',ι',h1,h2,h3,h4⟩:=hop
  rw[eX (.inr (nodef (by rw[hr];simp) (by rw[hr];simp)))] at hg
  refine⟨v',ι',a.defers,cs,w',.one (step_lone_go ?_),h2,same h3 (ab9 s.base h4.size) h4⟩
  rcases h1 with h1|⟨h1,rfl⟩
  ·rw[hg,←hfin];simp[stepG.apply,h1]
  ·rw[hg,←hfin];simp[stepG.apply,h1]
 |pan v=>
  rw[hr] at hop
  obtain⟨v',h1,h2⟩:=hop
  rw[eX (.inr (nodef (by rw[hr];simp) (by rw[hr];simp)))] at hg
  refine⟨v',ι,w,.inRegion ops (i::rest)::k,.one (step_lone_go ?_),h1,Mv.refl s⟩
  rw[hg,←Frame.raise_atR b a (.inRegion ops (i::rest)::k)];simp[stepG.apply,h2]
 |call f args=>
  rw[hr] at hop
  obtain⟨args',h1,h2⟩:=hop
  rw[eX (.inr (nodef (by rw[hr];simp) (by rw[hr];simp)))] at hg
  have hcall:=hC.call ι B h w f args args' s.rel s.base h1
  show match Eo dfs ctx (bZ P S self f args h) with| .fail=>_| .next v dfs' ctx' h'=>_| .pan v h'=>_
  cases hcr:bZ P S self f args h with
  |fail=>trivial
  |val v x h'=>
   rw[hcr] at hcall
   obtain⟨ι',v',w',c1,c2,c3,c4,c5⟩:=hcall (b.atR a (.inRegion ops (i::rest)::k)) cs
   refine⟨v',ι',a.defers,cs,w', ?_,c1,same c2 c3 c4⟩
   rcases c5 with c5|⟨w1,⟨f',ar,c5,c6⟩|⟨l,f',tm,x,y,c5,c6⟩⟩
   ·refine .one (step_lone_go ?_)
    rw[hg,←hfin];simp[stepG.apply,h2,c5]
   ·refine .head (step_lone_go ?_) (by rw[←hfin];exact c6)
    rw[hg];simp[stepG.apply,h2,c5,Frame.atR]
   ·refine .head (step_lone_go ?_) (by rw[←hfin];exact c6)
    rw[hg];simp[stepG.apply,h2,c5,Frame.atR]
  |pan v x h'=>
   rw[hcr] at hcall
   obtain⟨ι',v',w',c1,c2,c3,c4,w1,c5⟩:=hcall (b.atR a (.inRegion ops (i::rest)::k)) cs
   refine⟨v',ι',w',.inRegion ops (i::rest)::k, ?_,c1,same c2 c3 c4⟩
   rw[←Frame.raise_atR b a (.inRegion ops (i::rest)::k)]
   rcases c5 with⟨f',ar,c5,c6⟩|⟨l,f',tm,x,y,c5,c6⟩
   ·refine .head (step_lone_go ?_) c6
    rw[hg];simp[stepG.apply,h2,c5,Frame.atR]
   ·refine .head (step_lone_go ?_) c6
    rw[hg];simp[stepG.apply,h2,c5,Frame.atR]
 |yld l args=>
  rw[hr] at hop
  obtain⟨args',p,hp,h1,h2⟩:=hop
  rw[eX (.inr (nodef (by rw[hr];simp) (by rw[hr];simp)))] at hg
  have hcall:=hC.yld ι B h w l p args args' s.rel s.base h1 hp
  show match Eo dfs ctx (round self l args h) with| .fail=>_| .next v dfs' ctx' h'=>_| .pan v h'=>_
  cases hcr:round self l args h with
  |fail=>trivial
  |val v x h'=>
   rw[hcr] at hcall
   obtain⟨ι',v',w',c1,c2,c3,c4,c5⟩:=hcall (b.atR a (.inRegion ops (i::rest)::k)) cs
   refine⟨v',ι',a.defers,cs,w', ?_,c1,same c2 c3 c4⟩
   rcases c5 with c5|⟨w1,⟨f',ar,c5,c6⟩|⟨l,f',tm,x,y,c5,c6⟩⟩
   ·refine .one (step_lone_go ?_)
    rw[hg,←hfin];simp[stepG.apply,h2,c5]
   ·refine .head (step_lone_go ?_) (by rw[←hfin];exact c6)
    rw[hg];simp[stepG.apply,h2,c5,Frame.atR]
   ·refine .head (step_lone_go ?_) (by rw[←hfin];exact c6)
    rw[hg];simp[stepG.apply,h2,c5,Frame.atR]
  |pan v x h'=>
   rw[hcr] at hcall
   obtain⟨ι',v',w',c1,c2,c3,c4,w1,c5⟩:=hcall (b.atR a (.inRegion ops (i::rest)::k)) cs
   refine⟨v',ι',w',.inRegion ops (i::rest)::k, ?_,c1,same c2 c3 c4⟩
   rw[←Frame.raise_atR b a (.inRegion ops (i::rest)::k)]
   rcases c5 with⟨f',ar,c5,c6⟩|⟨l,f',tm,x,y,c5,c6⟩
   ·refine .head (step_lone_go ?_) c6
    rw[hg];simp[stepG.apply,h2,c5,Frame.atR]
   ·refine .head (step_lone_go ?_) c6
    rw[hg];simp[stepG.apply,h2,c5,Frame.atR]
 |dfr f cap=>
  rw[hr] at hop
  obtain⟨cap',h1,h2⟩:=hop
  cases rnd with
  |some l=>trivial
  |none=>
   have hro:b.roundOf=none:=s.rn
   rw[eX (.inl hro)] at hg
   refine⟨undef,ι,{target:= .fn (.func f) cap'.toArray,args:=#[]}::a.defers,cs,w,.one (step_lone_go ?_),fO,⟨⟨⟨⟨cap',h1,rfl⟩,s.df⟩,s.cx,s.rel,s.base,s.rn⟩,.refl _ _ _,.refl _ _⟩⟩
   have hd:∀d,({b.atR a (.inRegion ops (i::rest)::k) with defers:=d::a.defers}:Frame).finish undef=b.atR (({a with defers:=d::a.defers}:Act).put o.dst undef) (.inRegion ops rest::k):=λd=>by
    have:=Frame.finish_atR b {a with defers:=d::a.defers} ops i rest k undef
    rw[ho] at this;exact this
   rw[hg]
   simp only[stepG.apply,Sem.runT_eq,h2,GStep.bare_after]
   exact congrArg (λfr=>GStep.go {frame:=fr,callers:=cs,status:= .running,dying:=none} w) (hd _)
 |recov=>
  rw[hr] at hop
  cases rnd with
  |some l=>cases ctx<;>trivial
  |none=>
   have hro:b.roundOf=none:=s.rn
   rw[eX (.inl hro)] at hg
   cases ctx with
   |none=>
    refine⟨.nilIface,ι,a.defers,cs,w,.one (step_lone_go ?_),.nili,Mv.refl s⟩
    have htr:tryRecover (b.atR a (.inRegion ops (i::rest)::k)) cs=none:=by rw[sO b a _ cs b rfl];exact s.cx b rfl
    rw[hg,←hfin]
    simp only[Frame.atR,hro] at htr ⊢
    have hop':Sem.run P (execOp a.eval o) w= .ok .recover w:=hop
    simp[stepG.apply,hop',htr]
   |some v=>
    obtain⟨hk,c,r,v',older,hcs,hm,hv⟩:=s.cx
    subst hcs
    refine⟨v',ι,a.defers,{c with mode:= .panicking ({v:=v',recovered:=true}::older)}::r,w,.one (step_lone_go ?_),hv,⟨⟨s.df, ?_,s.rel,s.base,s.rn⟩,.refl _ _ _,.inr ⟨rfl,by simp,c,r,v',older,rfl,hm,rfl⟩⟩⟩
    ·have htr:tryRecover (b.atR a (.inRegion ops (i::rest)::k)) (c::r)=some (v',{c with mode:= .panicking ({v:=v',recovered:=true}::older)}::r):=by
      unfold tryRecover
      have:(b.atR a (.inRegion ops (i::rest)::k)).kind= .deferred:=hk
      rw[this]
      simp only[hm]
     rw[hg,←hfin]
     simp only[Frame.atR,hro] at htr ⊢
     have hop':Sem.run P (execOp a.eval o) w= .ok .recover w:=hop
     simp[stepG.apply,hop',htr]
    ·intro x hx
     unfold tryRecover
     rw[hx,hk]
end
end Nm
