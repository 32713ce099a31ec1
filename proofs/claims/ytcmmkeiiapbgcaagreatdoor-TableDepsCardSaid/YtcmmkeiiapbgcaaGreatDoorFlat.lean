/- Rows of flat values that a literal makes. No conditions. -/
import Derived.Test.YtcmmkeiiapbgcaaGreatDoorLaw1
namespace Go.Proofs.YtcmmkeiiapbgcaaGreatDoor
open Go Go.RowKit

/-- A value without columns and rows. -/
def flatV (y : Val) : Prop := y.cols = [] ∧ y.rows = [] ∧ y.s.size ≤ 4294967296
theorem CV.flat {w : World} {S : Nat → Prop} {d : Nat} {y : Val} (hy : flatV y) (hd : 0 < d) : CV w S d y (vcells y none 0 none 0) := by
  obtain ⟨h1, h2, h3⟩ := hy
  refine ⟨none, 0, none, 0, rfl, ⟨hd, by rw [h1]; exact Nat.le_refl _, by rw [h2]; exact Nat.le_refl _⟩, RV.mk h3 (by rw [h1]; exact Strs.nil) (by rw [h2]; exact Rows.nil)⟩
theorem VL.flat {w : World} {S : Nat → Prop} {d : Nat} (hd : 0 < d) : ∀ (ys : List Val), (∀ y ∈ ys, flatV y) → VL (CV w S d) (ys.flatMap fun y => vcells y none 0 none 0) ys
  | [], _ => VL.nil _
  | y :: ys, h => by
    have h1 := VL.snoc (VL.nil (CV w S d)) (cs := vcells y none 0 none 0) (y := y) (CV.flat (w := w) (S := S) (h y List.mem_cons_self) hd).one.1 (CV.flat (h y List.mem_cons_self) hd)
    have h2 := VL.flat (w := w) (S := S) hd ys fun z hz => h z (List.mem_cons_of_mem _ hz)
    simpa using h1.append h2
theorem Row.flat {w : World} {g t d : Nat} {cs : Array Value} {ys : List Val} (h : Blk w g t cs) (hc : cs.toList = ys.flatMap fun y => vcells y none 0 none 0) (hy : ∀ y ∈ ys, flatV y) (hd : 0 < d) (hl : ys.length ≤ 4294967296) : Row w (fun b => b = g) d (some ⟨g, 0, none⟩) ys := by
  have h1 := h.rd
  rw [hc] at h1
  exact RVs.iff.2 ⟨hl, _, h1, VL.flat hd ys hy⟩
theorem Rows.build {w : World} {S : Nat → Prop} {g t d : Nat} {cs : Array Value} {rs : List (List Val)} (h : Blk w g t cs) (hs : cs.size = rs.length) (hg : S g) (hl : rs.length ≤ 4294967296)
    (hr : ∀ (i : Nat) (r : List Val), rs[i]? = some r → ∃ B e, cs[i]? = some (Value.slice B r.length e) ∧ r.length ≤ e ∧ Row w S d B r) : Rows w S d (some ⟨g, 0, none⟩) rs := by
  refine ⟨hl, cs.toList, h.rd.mono (fun i _ hi => hi ▸ hg), by simpa using hs, fun i r hi => ?_⟩
  obtain ⟨B, e, h1, h2, h3⟩ := hr i r hi
  exact ⟨B, e, by simpa using h1, h2, h3⟩
theorem Strs.of_blk {w : World} {g t : Nat} {cs : Array Value} {l : List ByteArray} (h : Blk w g t cs) (hc : cs.toList = l.map Value.string) (hl : l.length ≤ 4294967296) (hs : ∀ s ∈ l, s.size ≤ 4294967296) : Strs w (fun b => b = g) (some ⟨g, 0, none⟩) l := by
  have h1 := h.rd
  rw [hc] at h1
  exact ⟨h1, hl, hs⟩
def RetL (w : World) (t : Look) (e : Ending) (w' : World) : Prop := ∃ A c B e', e = .returned (.agg #[.string t.name, .slice A t.cols.length c, .slice B t.rows.length e']) ∧ (t.cols.length ≤ c ∧ t.rows.length ≤ e') ∧ RL w' (Fresh w) 1 t A B ∧ Ext w w'
end Go.Proofs.YtcmmkeiiapbgcaaGreatDoor
