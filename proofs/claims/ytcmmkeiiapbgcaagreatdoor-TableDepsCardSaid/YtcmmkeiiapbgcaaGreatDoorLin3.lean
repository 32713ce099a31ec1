/- An operation of a drawn region whose guard says no. No conditions. -/
import Derived.Test.YtcmmkeiiapbgcaaGreatDoorLin2
namespace Go.Proofs.YtcmmkeiiapbgcaaGreatDoor
open Go Go.RowKit

theorem LinStep.no {Γ : Type} {P : Program} {ops : Array Oper} {D : Nat → List Nat} {R : Γ → World → Γ → World → Prop} {N : Nat → Γ → Prop} {G : Nat → List Value → Γ → World → Prop} {a0 : Act} {γ0 : Γ} {w0 : World} {i : Nat} {o : Oper}
    (h : ∀ (vals : Nat → Value) (γ : Γ) (w : World), (∀ j, j ∈ predsOf o → G j ((D j).map vals) γ w) → linWanted o vals = false ∧ G i ((D i).map (setV vals i undef)) γ w) : LinStep P ops D R N G a0 γ0 w0 i o := by
  intro vals γ w hR hN hp
  obtain ⟨h1, h2⟩ := h vals γ w hp
  rw [if_neg (by rw [h1]; simp)]
  exact h2
theorem arr2 {cs : Array Value} (h : cs.size = 2) (a0 a1 : Value) : (cs.setIfInBounds 0 a0).setIfInBounds 1 a1 = #[a0, a1] := by
  obtain ⟨l⟩ := cs
  match l, h with
  | [_, _], _ => rfl
theorem VarAt.store2 {γ : Gh} {w : World} {al : Nat → Option Nat} {s k t : Nat} {v : Value} (h : VarAt k t 2 v γ w) (hs : al s = some k) (hn : LN al s γ) :
    ∃ g, v = .pointer (some ⟨g, 0, none⟩) ∧ (∃ x0 x1, w.cell? ⟨g, 0, none⟩ = some x0 ∧ w.cell? ⟨g, 1, none⟩ = some x1) ∧ (∀ i, w.frozen? ⟨g, i, none⟩ = false) ∧ g < w.heap.size ∧ γ k = some (some g) ∧ ∀ a0 a1, LR γ w (γ.put k none) ((w.setCell ⟨g, 0, none⟩ a0).setCell ⟨g, 1, none⟩ a1) ∧
      VarIs t v #[a0, a1] (γ.put k none) ((w.setCell ⟨g, 0, none⟩ a0).setCell ⟨g, 1, none⟩ a1) := by
  obtain ⟨g, ⟨l⟩, h1, h2, h3, h4, h5⟩ := h.stored hs hn
  match l, h2 with
  | [x0, x1], h2 =>
    refine ⟨g, h1, ⟨x0, x1, h3.cell rfl, h3.cell rfl⟩, h3.frozen, h3.lt, h4, fun a0 a1 => h5 _ _ (((Only.refl g w).set 0 a0).set 1 a1) ?_ rfl⟩
    have := (h3.set 0 a0).set 1 a1
    rwa [arr2 h2] at this
end Go.Proofs.YtcmmkeiiapbgcaaGreatDoor
