/- The reference's plus: decimals as numbers of any size. Conditions: bounds on sizes. -/
import Derived.Test.YtomdpipekmcojaaGreatDoorBk6
import Derived.WalkLawsBesides
namespace Go.Proofs.YtomdpipekmcojaaGreatDoor
open Go Go.RowKit

/- The reference's Cmp of decimals is that of the program. Conditions: none. -/

structure Dc (a b v:Int) (s:Nat):Prop where
 mu:mu a b=v*pw (6-(s:Int))
 s6:s≤6
 v1:(valD a b).1=v
 v2:(valD a b).2.toNat=s
 lo:-1000000000000000≤v
 hi:v≤1000000000000000
theorem Dc.of (a b:Int):∃ v s,Dc a b v s:=by
 have h:=valD_range a b;refine ⟨(valD a b).1,(valD a b).2.toNat,?_,by omega,rfl,rfl,h.2.2.1,h.2.2.2⟩;rw [Int.toNat_of_nonneg h.1];rfl
theorem Dc.lt {a b v:Int} {s:Nat} (h:Dc a b v s):v.natAbs<256 ^ 20:=by
 have h1:=h.lo;have h2:=h.hi;exact Nat.lt_of_le_of_lt (show v.natAbs≤1000000000000000 by omega) (by decide)
/- The reference's Right of values that are no tables. Conditions: the value reads as data. -/

/- The reference's Right: concordref06.Rows, Right. Conditions: the arguments read as data. -/

/- The reference's Less of values that are no tables. Conditions: the arguments read as data. -/

theorem compare_negQ:∀ (a b:List UInt8),Lib.compareBytes a b<0↔a<b
 | [],[]=>by simp [Lib.compareBytes]
 | [],_ :: _=>by simp [Lib.compareBytes]
 | _ :: _,[]=>by simp [Lib.compareBytes]
 | x :: a,y :: b=>by
  have ih:=compare_negQ a b;unfold Lib.compareBytes;rw [List.cons_lt_cons_iff];by_cases h1:x<y
  ·simp [h1]
  ·by_cases h2:y<x
   ·have hne:¬ x=y:=fun e=>by subst e; exact h1 h2
    simp [h1,h2,hne]
   ·have he:x=y:=UInt8.le_antisymm (UInt8.not_lt.1 h2) (UInt8.not_lt.1 h1);subst he;simp [h1,ih]
end Go.Proofs.YtomdpipekmcojaaGreatDoor
