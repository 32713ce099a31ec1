/- From the row's reading of the arguments to the words of the walks. No conditions. -/
import Derived.Test.YtcmmkeiiapbgcaaDoorRows
import Derived.Test.YtcmmkeiiapbgcaaDoorTie
import Derived.Test.YtcmmkeiiapbgcaaDoorCards
import Derived.Test.YtcmmkeiiapbgcaaDoorNext
import Derived.Test.YtcmmkeiiapbgcaaDoorDec
import Derived.ProofKit
import Derived.LaidMore
import Derived.OpenShut
import Derived.ShutString
import Derived.ChangeOld
import Derived.Stop.Joined
import Derived.SevenTiedAt
import Derived.Deep.Matrix
namespace Go.Proofs.YtcmmkeiiapbgcaaDoor
open Go Go.ChangeShapes Go.WideShapes Go.ChangeAt Go.WideMaps Go.WideElems Go.RowKit

theorem own : ownKnob Tryd.prog.godebug = none := by kernel_rfl
theorem laidOut : laidOutB Tryd.prog = true := by kernel_rfl
theorem gTens : Tryd.prog.globalNamed "concord/decimal.tens" = some 0 := by kernel_rfl
theorem tTens : (Tryd.prog.globals[0]?).map (·.type) = some 114 := by kernel_rfl
theorem spot_none {W : World} {a : Addr} {v : Value} (h : W.cell? a = some v) : a.spot = none := by
  unfold World.cell? at h
  split at h
  · split at h
    · cases h
    · rename_i hs; simpa using hs
  · cases h
theorem add_none {a : Addr} (h : a.spot = none) (n : Nat) : a.add n = ⟨a.block, a.off + n, none⟩ := by
  obtain ⟨b, o, s⟩ := a
  simp at h
  subst h
  unfold Addr.add
  split
  · rename_i h0; subst h0; rfl
  · rfl
theorem rd_cells {W : World} {a : Addr} {xs : List Value} (h : ∀ j u, xs[j]? = some u → W.cell? (a.add j) = some u) : Rd W (fun _ => True) (some a) xs := by
  rcases xs with _ | ⟨x, xs⟩
  · exact Or.inl rfl
  · have hs : a.spot = none := spot_none (a := a) (v := x) (by have := h 0 x rfl; simpa [Addr.add] using this)
    refine Or.inr ⟨a.block, a.off, ?_, trivial, ?_, fun j u hj => ?_⟩
    · obtain ⟨b, o, s⟩ := a; simp at hs; subst hs; rfl
    · have h0 := h 0 x rfl
      rw [add_none hs] at h0
      unfold World.cell? at h0
      rcases Nat.lt_or_ge a.block W.heap.size with h1 | h1
      · exact h1
      · simp only [Array.getElem?_eq_none h1] at h0; cases h0
    · rw [← add_none hs]; exact h j u hj
theorem intsL_of {W : World} {a : Addr} {zs : List Int} {len : Nat} (hc : ∀ i, i < zs.length → W.cell? (a.add i) = some (.int .i64 (zs.getD i 0))) (hm : zs.length ≤ maxLen) : IntsL W (fun _ => True) (some a) (zs.take len) := by
  unfold maxLen at hm
  refine ⟨rd_cells fun j u hj => ?_, by rw [List.length_take]; omega⟩
  rw [List.getElem?_map] at hj
  cases hz : (zs.take len)[j]? with
  | none => rw [hz] at hj; cases hj
  | some z =>
    rw [hz] at hj
    simp at hj
    subst hj
    have hlt := (List.getElem?_eq_some_iff.1 hz).1
    rw [List.length_take] at hlt
    rw [hc j (by omega)]
    rw [List.getElem?_take, if_pos (by omega)] at hz
    simp [hz]
/-- An argument []int. -/
theorem open_l {H : Type} {enc : TypeId × Value → H} {W : World} {base : Nat} {a : Option Addr} {len cap fuel : Nat} {held : Bool} {x : DataW H × List MemPlace} (h : DataW.trod enc Tryd.prog W base (fun _ => true) held fuel 22 (Value.slice a len cap).cells.toList = some x) :
    ∃ l : List Int, l.length = len ∧ IntsL W (fun _ => True) a l := by
  rcases open_ints Tryd.underlying22 Tryd.underlying3 (by kernel_rfl) h with ⟨hcs, _⟩ | ⟨y, l, c, zs, hcs, _, hl, hm, hz, _, hcell, hwz⟩
  · simp [Value.cells] at hcs
    obtain ⟨rfl, rfl, rfl⟩ := hcs
    exact ⟨[], rfl, Or.inl rfl, by simp⟩
  · simp [Value.cells] at hcs
    obtain ⟨rfl, rfl, rfl⟩ := hcs
    simp only [if_true] at hz
    exact ⟨zs.take len, by rw [List.length_take]; omega, intsL_of hcell (by omega)⟩
end Go.Proofs.YtcmmkeiiapbgcaaDoor
