/- Dependencies of a call's own memory, for the program's table.Keys and the references. No conditions. -/
import Derived.Test.YtcmmkeiiapbgcaaGreatDoorKeys3
import Derived.Test.YtcmmkeiiapbgcaaGreatDoorClos2
namespace Go.Proofs.YtcmmkeiiapbgcaaGreatDoor
open Go Go.RowKit

/-- A slice of dependencies of the call's own. -/
def OwnDs (w : World) (base : Nat) (X : Nat → Prop) (A : Option Addr) (c : Nat) (l : List Dep) : Prop :=
  ∃ xs, Own w base 52 2 A l.length c xs ∧ ∀ (i : Nat) (d : Dep), l[i]? = some d → ∃ (B : Option Addr) (e : Nat), xs[i * 2]? = some (.slice B d.frm.length e) ∧ xs[i * 2 + 1]? = some (.string d.to) ∧ d.frm.length ≤ e ∧ d.to.size ≤ 4294967296 ∧ Strs w (fun b => ob A ≠ some b ∧ X b) B d.frm
theorem Strs.move {w w' : World} {S T : Nat → Prop} {l : List ByteArray} {B : Option Addr} (h : Strs w S B l) (k : Kept S w w') (m : ∀ i, i < w.heap.size → S i → T i) : Strs w' T B l :=
  ((Strs.mono h (T := fun b => S b ∧ T b) fun i hi hs => ⟨hs, m i hi hs⟩).keep (k.mono fun _ _ hh => hh.1)).mono fun _ _ hh => hh.2
theorem OwnDs.nil (w : World) (base : Nat) (X : Nat → Prop) : OwnDs w base X none 0 [] := ⟨[], Own.nil _ _ _ _, by simp⟩
theorem OwnDs.keep {w w' : World} {base c : Nat} {X : Nat → Prop} {A : Option Addr} {l : List Dep} (h : OwnDs w base X A c l) (hk : Kept (fun b => ob A = some b ∨ X b) w w') : OwnDs w' base X A c l := by
  obtain ⟨hs, h1, h2⟩ := h
  refine ⟨hs, h1.keep (hk.mono fun _ _ hh => Or.inl hh), fun i r hr => ?_⟩
  obtain ⟨B, e, h3, h4, h5, h6, h7⟩ := h2 i r hr
  exact ⟨B, e, h3, h4, h5, h6, h7.keep (hk.mono fun _ _ hh => Or.inr hh.2)⟩
theorem OwnDs.ext {w w' : World} {base c : Nat} {X : Nat → Prop} {A : Option Addr} {l : List Dep} (h : OwnDs w base X A c l) (hx : Ext w w') : OwnDs w' base X A c l := h.keep (hx.kept _)
theorem OwnDs.mono {w : World} {base c : Nat} {X T : Nat → Prop} {A : Option Addr} {l : List Dep} (h : OwnDs w base X A c l) (hm : ∀ b, b < w.heap.size → X b → T b) : OwnDs w base T A c l := by
  obtain ⟨hs, h1, h2⟩ := h
  refine ⟨hs, h1, fun i r hr => ?_⟩
  obtain ⟨B, e, h3, h4, h5, h6, h7⟩ := h2 i r hr
  exact ⟨B, e, h3, h4, h5, h6, h7.mono fun i hi hh => ⟨hh.1, hm i hi hh.2⟩⟩
theorem OwnDs.push {w w' : World} {base c' : Nat} {X : Nat → Prop} {A A' : Option Addr} {l : List Dep} {r : Dep} {B : Option Addr} {e : Nat} {hs : List Value} (ho : hs.length = l.length * 2)
    (hv : ∀ (i : Nat) (d : Dep), l[i]? = some d → ∃ (B : Option Addr) (e : Nat), hs[i * 2]? = some (.slice B d.frm.length e) ∧ hs[i * 2 + 1]? = some (.string d.to) ∧ d.frm.length ≤ e ∧ d.to.size ≤ 4294967296 ∧ Strs w (fun b => ob A ≠ some b ∧ X b) B d.frm)
    (hown : Own w' base 52 2 A' (l.length + 1) c' (hs ++ [Value.slice B r.frm.length e, .string r.to])) (hg : w.grownBy w' (ob A)) (hat : ob A' = ob A ∨ ob A' = some w.heap.size)
    (hre : r.frm.length ≤ e) (hrt : r.to.size ≤ 4294967296) (hy : Strs w (fun b => ob A ≠ some b ∧ X b) B r.frm) : OwnDs w' base X A' c' (l ++ [r]) := by
  have hk : Kept (fun b => ob A ≠ some b ∧ X b) w w' := Kept.of_grown hg (fun b hb _ e => hb.1 e.symm)
  have hm : ∀ i, i < w.heap.size → (ob A ≠ some i ∧ X i) → (ob A' ≠ some i ∧ X i) := by
    rintro i hi ⟨h1, h2⟩
    refine ⟨?_, h2⟩
    rcases hat with e | e <;> rw [e]
    · exact h1
    · intro h; injection h with h; omega
  refine ⟨_, by simpa using hown, fun i r' hr => ?_⟩
  rcases Nat.lt_or_ge i l.length with hlt | hge
  · rw [List.getElem?_append_left hlt] at hr
    obtain ⟨B', e', h3, h4, h5, h6, h7⟩ := hv i r' hr
    exact ⟨B', e', by rw [List.getElem?_append_left (by omega)]; exact h3, by rw [List.getElem?_append_left (by omega)]; exact h4, h5, h6, h7.move hk hm⟩
  · rw [List.getElem?_append_right hge] at hr
    have hj0 : i - l.length = 0 := by
      rcases Nat.eq_zero_or_pos (i - l.length) with h0 | h0
      · exact h0
      · rw [List.getElem?_eq_none (by simp; omega)] at hr
        cases hr
    rw [hj0] at hr
    simp at hr
    subst hr
    obtain rfl : i = l.length := by omega
    exact ⟨B, e, by rw [List.getElem?_append_right (by omega), ho, Nat.sub_self]; rfl, by rw [List.getElem?_append_right (by omega), ho, Nat.add_sub_cancel_left]; rfl, hre, hrt, hy.move hk hm⟩
theorem OwnDs.rdeps {w : World} {base c : Nat} {X T : Nat → Prop} {A : Option Addr} {l : List Dep} (h : OwnDs w base X A c l) (hl : l.length ≤ 4294967296) (h1 : ∀ b, ob A = some b → T b) (h2 : ∀ b, X b → T b) : RDeps w T A l := by
  obtain ⟨hs, ho, hv⟩ := h
  refine ⟨hl, hs, ho.rd.mono fun i _ hi => h1 i hi, by simpa using ho.len, fun i r hr => ?_⟩
  obtain ⟨B, e, h3, h4, h5, h6, h7⟩ := hv i r hr
  exact ⟨B, e, h3, h4, h5, h6, h7.mono fun i _ hi => h2 i hi.2⟩
theorem OwnDs.blk {w : World} {base c : Nat} {X : Nat → Prop} {A : Option Addr} {l : List Dep} (h : OwnDs w base X A c l) {k : Nat} (hk : ob A = some k) : base ≤ k ∧ k < w.heap.size := by
  obtain ⟨xs, ho, _⟩ := h
  exact ho.blk hk
theorem OwnDs.add {w : World} {base c : Nat} {X : Nat → Prop} {A : Option Addr} {l : List Dep} (h : OwnDs w base X A c l) : ∃ hs, hs.length = l.length * 2 ∧ Own w base 52 2 A l.length c hs ∧ ∀ (i : Nat) (d : Dep), l[i]? = some d → ∃ (B : Option Addr) (e : Nat), hs[i * 2]? = some (.slice B d.frm.length e) ∧ hs[i * 2 + 1]? = some (.string d.to) ∧ d.frm.length ≤ e ∧ d.to.size ≤ 4294967296 ∧ Strs w (fun b => ob A ≠ some b ∧ X b) B d.frm := by
  obtain ⟨hs, h1, h2⟩ := h
  exact ⟨hs, h1.len, h1, h2⟩
theorem OwnIss.keep {w w' : World} {base c : Nat} {X : Nat → Prop} {A : Option Addr} {l : List (List Int)} (h : OwnIss w base X A c l) (hk : Kept (fun b => ob A = some b ∨ X b) w w') : OwnIss w' base X A c l := by
  obtain ⟨hs, h1, h2⟩ := h
  refine ⟨hs, h1.keep (hk.mono fun _ _ hh => Or.inl hh), fun i r hr => ?_⟩
  obtain ⟨B, e, h3, h4, h7⟩ := h2 i r hr
  exact ⟨B, e, h3, h4, h7.keep (hk.mono fun _ _ hh => Or.inr hh.2)⟩
theorem infoD : (Tryz.prog.info? 52).map (fun i => (i.zero, i.size, i.bytes)) = some (some (.agg #[.slice none 0 0, .string ⟨#[]⟩]), 2, 40) := by kernel_rfl
theorem tiD : TI Tryz.prog 49 52 2 40 := TI.mk_ Tryz.underlying49 infoD rfl (by decide)

def depsOf (cols : List ByteArray) (s : List Int) (n : Nat) : List Dep := ((List.range n).filter fun c : Nat => !memI s (c : Int)).map fun c => ⟨namesS cols s, cols.getD c ⟨#[]⟩⟩
def keyStep (cols : List ByteArray) (rows : List (List Val)) (st : List (List Int) × List Dep) (s : List Int) : List (List Int) × List Dep :=
  if st.1.any (fun k => subI k s) then st else if !keyB rows cols.length (s.map Int.toNat) then st else (st.1 ++ [s], st.2 ++ depsOf cols s cols.length)
def nodupB (l : List ByteArray) : Bool := decide l.Nodup
def keysS (cols : List ByteArray) (rows : List (List Val)) : List Dep :=
  if !nodupB cols || !regB cols rows then [] else ((setsS cols.length).foldl (keyStep cols rows) ([], [])).2
def RetDs (w : World) (l : List Dep) (e : Ending) (w' : World) : Prop := ∃ A c, e = .returned (.slice A l.length c) ∧ l.length ≤ c ∧ RDeps w' (Fresh w) A l ∧ Ext w w'
end Go.Proofs.YtcmmkeiiapbgcaaGreatDoor
