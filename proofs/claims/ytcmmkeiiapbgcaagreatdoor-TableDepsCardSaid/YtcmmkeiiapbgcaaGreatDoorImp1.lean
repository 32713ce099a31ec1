/- What dependencies that hold imply, holds; closures of closures. Plain facts; no conditions. -/
import Derived.Test.YtcmmkeiiapbgcaaGreatDoorSan2
import Derived.Test.YtcmmkeiiapbgcaaGreatDoorMade1
namespace Go.Proofs.YtcmmkeiiapbgcaaGreatDoor
open Go Go.RowKit

theorem idxS_iff {l : List ByteArray} {v : ByteArray} : decide (0 ≤ idxS l v) = true ↔ v ∈ l := by rw [decide_eq_true_iff]; exact idxS_mem l v
theorem holdsS_iff {cols : List ByteArray} {rows : List (List Val)} {frm : List ByteArray} {x : ByteArray} : holdsS cols rows frm x = true ↔
    x ∈ cols ∧ regB cols rows = true ∧ (∀ f ∈ frm, f ∈ cols) ∧ ∀ r ∈ rows, ∀ o ∈ rows, (∀ f ∈ frm, eqAt (idxS cols f).toNat r o = true) → eqAt (idxS cols x).toNat r o = true := by
  unfold holdsS
  simp only [Bool.and_eq_true, idxS_iff, List.all_eq_true, and_assoc]
  refine and_congr Iff.rfl (and_congr Iff.rfl (and_congr Iff.rfl ?_))
  unfold holdRows
  simp only [List.all_eq_true, Bool.or_eq_true, Bool.not_eq_true', List.mem_map, forall_exists_index, and_imp, forall_apply_eq_imp_iff₂]
  constructor
  · intro h r hr o ho hf
    rcases h r hr o ho with h1 | h1
    · exfalso
      have : ((frm.map fun f => (idxS cols f).toNat).all fun f => eqAt f r o) = true := by
        rw [List.all_eq_true]
        intro x hx
        obtain ⟨f, hf', rfl⟩ := List.mem_map.1 hx
        exact hf f hf'
      rw [this] at h1
      cases h1
    · exact h1
  · intro h r hr o ho
    by_cases hf : ((frm.map fun f => (idxS cols f).toNat).all fun f => eqAt f r o) = true
    · right
      refine h r hr o ho fun f hf' => ?_
      rw [List.all_eq_true] at hf
      exact hf _ (List.mem_map_of_mem hf')
    · left
      simpa using hf
theorem holds_implied {cols : List ByteArray} {rows : List (List Val)} {good : List Dep} {frm ks : List ByteArray} (hreg : regB cols rows = true) (hgood : ∀ d ∈ good, holdsS cols rows d.frm d.to = true) (hfrm : ∀ x ∈ frm, x ∈ cols) (hc : IsClosure good frm ks) {x : ByteArray} (hx : x ∈ ks) : holdsS cols rows frm x = true := by
  refine hc.least (fun x => holdsS cols rows frm x = true) (fun x hx => ?_) (fun d hd h => ?_) x hx
  · exact holdsS_iff.2 ⟨hfrm x hx, hreg, hfrm, fun r _ o _ hf => hf x hx⟩
  · obtain ⟨h1, _, h3, h4⟩ := holdsS_iff.1 (hgood d hd)
    refine holdsS_iff.2 ⟨h1, hreg, hfrm, fun r hr o ho hf => h4 r hr o ho fun f hf' => ?_⟩
    exact (holdsS_iff.1 (h f hf')).2.2.2 r hr o ho hf
theorem mem_sortS {l : List ByteArray} {x : ByteArray} : x ∈ sortS l ↔ x ∈ l := by
  unfold sortS
  simp only [List.mem_map, List.mem_mergeSort]
  constructor
  · rintro ⟨a, ⟨y, hy, rfl⟩, rfl⟩
    exact hy
  · intro h
    exact ⟨x.data.toList, ⟨x, h, rfl⟩, rfl⟩
theorem sortS_len (l : List ByteArray) : (sortS l).length = l.length := by simp [sortS]
theorem IsClosure.again {l : List Dep} {frm ks ks' : List ByteArray} (h : IsClosure l frm ks) (h' : IsClosure l (sortS ks) ks') : sortS ks' = sortS ks := by
  refine h'.one ⟨h.nodup, fun x hx => mem_sortS.1 hx, h.closed, fun T h1 _ x hx => h1 x (mem_sortS.2 hx)⟩
theorem IsClosure.grow {l m : List Dep} {frm ks ks' : List ByteArray} (h : IsClosure l frm ks) (h' : IsClosure m frm ks') (hs : ∀ d ∈ l, d ∈ m) : ∀ x ∈ ks, x ∈ ks' :=
  h.least (· ∈ ks') h'.base fun d hd hf => h'.closed d (hs d hd) hf
theorem IsClosure.len {l : List Dep} {frm ks : List ByteArray} (h : IsClosure l frm ks) : ks.length ≤ frm.length + l.length := Part.len ⟨h.nodup, h.base, h.least⟩
theorem MadeT.reg {name : ByteArray} {t : Look} (h : MadeT name t) : regB t.cols t.rows = true := by
  obtain ⟨_, ks, h1, h2, h3, _, _, _, h7⟩ := h
  unfold regB
  rw [List.all_eq_true]
  intro r hr
  have := (h7 r hr).1
  have hl : names4.length = 4 := rfl
  simp [h3, this]
  omega
theorem MadeT.cols {name : ByteArray} {t : Look} (h : MadeT name t) : 1 ≤ t.cols.length ∧ t.cols.length ≤ 4 ∧ t.rows.length ≤ 6 := by
  obtain ⟨_, ks, h1, h2, h3, _, _, h6, _⟩ := h
  have hl : names4.length = 4 := rfl
  refine ⟨?_, ?_, h6⟩ <;> simp [h3] <;> omega
end Go.Proofs.YtcmmkeiiapbgcaaGreatDoor
