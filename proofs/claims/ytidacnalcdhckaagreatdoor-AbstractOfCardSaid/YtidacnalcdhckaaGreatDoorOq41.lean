/- Lemmas. No conditions. -/
import Derived.Test.YtidacnalcdhckaaGreatDoorOq32
import Derived.Test.YtidacnalcdhckaaGreatDoorOq36
import Derived.Sort.Walk0
import Derived.Deep.DeepCutAuto
namespace Go.Proofs.YtidacnalcdhckaaGreatDoor
open Go Go.RowKit Tryz






theorem KD{ops:Array Oper}{rest:List Oper}{o:Oper}{a:Act}{w:World}{Q:Exit→Act→World→Prop}(hgd:o.guard=none)(ho:o.op=.alloc 29)
  (h:wpList prog ops Q rest (a.put o.dst (.pointer (some ⟨w.heap.size,0,none⟩))) (w.alloc (.cells Vz 29))):wpList prog ops Q (o::rest) a w:=by
 exact GM
theorem P2{w:World}{g:Nat}(h:g=w.heap.size):Blk (w.alloc (.cells Vz 29)) g 29 Vz:=by
 rw [h];exact Blk.new _ _ _
end Go.Proofs.YtidacnalcdhckaaGreatDoor
