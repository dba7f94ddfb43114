/- Lemmas for the claim's theorem;conditions: as each says. -/
import Derived.Test.YtmdfjnhfhidmhaaGreatDoorQ20
set_option linter.all false
namespace Go.Proofs.YtmdfjnhfhidmhaaGreatDoor
open Go.RowKit
def pW(s:af)(j:Nat):Nat→Int
 |0=>0
 |1=>lS s (4*j)
 |2=>bits .or .u32 (lS s (4*j)) (lS s (4*j+1)*256%4294967296)
 |3=>bits .or .u32 (bits .or .u32 (lS s (4*j)) (lS s (4*j+1)*256%4294967296)) (lS s (4*j+2)*65536%4294967296)
 |_=>pK s j
def agL(s:af)(k:Nat):List Int:=(List.range 16).map fun j=>pW s j (k-4*j)
def YX(hs:List Int)(k:Nat):List Int:=(List.range 16).map fun j=>if j<8 then(if j<k then hs.getD j 0 else 0)else(if j-8<k then fA.getD (j-8) 0 else 0)
def zN:List af:=[[48,49,50,51,52,53,54,55,56,57,97,98,99,100,101,102],[101,97,52,56,57,102,100,54,49,99,48,50,98,55,53,51],[98,56,99,48,53,50,102,100,97,101,51,54,55,49,57,52],[55,57,51,49,100,99,98,101,50,54,53,97,52,48,102,56],[57,48,53,55,50,52,97,102,101,49,98,99,54,56,51,100],[50,99,54,97,48,98,56,51,52,100,55,53,102,101,49,57],[99,53,49,102,101,100,52,97,48,55,54,51,57,50,56,98],[100,98,55,101,99,49,51,57,53,48,102,52,56,54,50,97],[54,102,101,57,98,51,48,56,99,50,100,55,49,52,97,53],[97,50,56,52,55,54,49,53,102,98,57,101,51,99,100,48]]
def Ol(r:Nat):af:=zN.getD r []
def RQ(c:Nat):Nat:=if 97≤c then c-87 else c-48
def YY:Array Value:=#[.int .i64 0,.int .i64 0,.int .i64 0,.int .i64 0]
