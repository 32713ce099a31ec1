/- The reference's Bent: some plan. Conditions: the plan reads as data; its questions have answers and places; its values are plain. -/
import Derived.Test.YtomdpipekmcojaaGreatDoorBk22
namespace Go.Proofs.YtomdpipekmcojaaGreatDoor
open Go Go.RowKit

structure OkP (Y:List AskD):Prop where
 plain:∀ t∈Y,Plain t.2.1
 two:∀ t∈Y,2≤t.2.1.length∧2≤t.2.2.length
 small:∀ t∈Y,t.2.1.length≤1000∧t.2.2.length≤1000
 few:Y.length≤1000
end Go.Proofs.YtomdpipekmcojaaGreatDoor
