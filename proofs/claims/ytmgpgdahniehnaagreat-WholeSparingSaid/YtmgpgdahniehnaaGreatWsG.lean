/- WholeSparing on the given program: part 7. -/
import Derived.Test.YtmgpgdahniehnaaGreatWsF
open Go Nm Go.Proofs
namespace FR
def spS:List Nat:= [99,101,108,108,32,97,59,32,116,104,114,101,97,100,32,116,32,123,32]
def RU:List Nat:= [108,111,97,100,32,120,32,97,59,32]
def spM:List Nat:= [125,32,116,104,114,101,97,100,32,117,32,123,32]
def JN (n:Nat) (both:Bool):List Nat:=spS++(List.replicate n RU).flatten++spM++(if both then RU else [])++ [125]
def ldS:Stm:= .mk 1 0 [120] [97] (.mk 0 0 0 [] []) (.mk 0 0 0 [] []) (.mk 0 0 0 [] []) [] []
def cT (n:Nat):Cd:=XU [([97],1)] (List.replicate n ldS)
deriving instance DecidableEq for Sp
deriving instance DecidableEq for Cd
def bN (both:Bool):Nat:=if both then 1 else 0
def aad (n:Nat) (both:Bool) (p:Prg):Bool:=
 decide ((uS p).2=0)&& !iB p.cs p.r p.ts&&decide (p.cs.length=1)&&decide (p.ts.length=2)&&p.ts.all (λt=>decide (dC t.2<=400000))&&decide (dC p.r<=400000)&&decide (de p.cs=1)&&decide (XU p.cs p.r=cT 0)&&decide (UL p= [cT n,cT (bN both)])
def ZS (n:Nat) (both:Bool):Bool:=match (eg (JN n both)).1 with|none=>false|some p=>aad n both p
theorem Tj:∀n<21,∀both,ZS n both=true:=by decide+kernel
def ldW (el:Bool):List Nat:= [3531603970,3531603971,2315452484,3531604226,2600631427,3531735042,2332164196,3370122369]++(if el then [] else [3574299684,3573758879])
def wT (n:Nat) (el:Bool):List Nat:=(List.replicate n (ldW el)).flatten++ [3560964096,3560964096]
theorem N4:∀n<21,(cT n).fl.el [false]=(cT n).fl:=by decide+kernel
theorem Ti:∀n<21,∀both,kK [(cT n).fl,(cT (bN both)).fl] 1= [!(both&&decide (0<n))]:=by decide+kernel
end FR
