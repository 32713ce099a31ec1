/- Closures are one: the sorted list is determined. The law's example of one. No conditions. -/
import Derived.Test.YtcmmkeiiapbgcaaGreatDoorSan1
namespace Go.Proofs.YtcmmkeiiapbgcaaGreatDoor
open Go Go.RowKit

theorem sortS_perm {k k' : List ByteArray} (h : k.Perm k') : sortS k = sortS k' := by
  unfold sortS
  rw [sort_perm (h.map _)]
theorem IsClosure.mem {l : List Dep} {frm ks ks' : List ByteArray} (h : IsClosure l frm ks) (h' : IsClosure l frm ks') (x : ByteArray) : x ∈ ks ↔ x ∈ ks' :=
  ⟨fun hx => h.least (· ∈ ks') h'.base h'.closed x hx, fun hx => h'.least (· ∈ ks) h.base h.closed x hx⟩
theorem IsClosure.one {l : List Dep} {frm ks ks' : List ByteArray} (h : IsClosure l frm ks) (h' : IsClosure l frm ks') : sortS ks = sortS ks' :=
  sortS_perm ((List.perm_ext_iff_of_nodup h.nodup h'.nodup).2 (h.mem h'))
theorem san_clos0 : IsClosure abD [sA] [sA, sB, sC] := by
  refine ⟨by decide, by simp, ?_, ?_⟩
  · intro d hd _
    simp only [abD, List.mem_cons, List.not_mem_nil, or_false] at hd
    rcases hd with rfl | rfl <;> simp
  · intro T h1 h2 x hx
    have ha : T sA := h1 sA (by simp)
    have hb : T sB := h2 ⟨[sA], sB⟩ (by simp [abD]) (by simpa using ha)
    have hc : T sC := h2 ⟨[sB], sC⟩ (by simp [abD]) (by simpa using hb)
    simp only [List.mem_cons, List.not_mem_nil, or_false] at hx
    rcases hx with rfl | rfl | rfl
    · exact ha
    · exact hb
    · exact hc
theorem san_sort : sortS [sA, sB, sC] = [sA, sB, sC] := by
  unfold sortS sA sB sC
  have h1 : ([97] : List UInt8) ≤ [98] := by decide
  have h2 : ([97] : List UInt8) ≤ [99] := by decide
  have h3 : ([98] : List UInt8) ≤ [99] := by decide
  simp [List.mergeSort, List.MergeSort.Internal.splitInTwo, List.merge, h1, h2, h3]
theorem san_clos {ks : List ByteArray} (h : IsClosure abD [sA] ks) : sortS ks = [sA, sB, sC] := (h.one san_clos0).trans san_sort
end Go.Proofs.YtcmmkeiiapbgcaaGreatDoor
