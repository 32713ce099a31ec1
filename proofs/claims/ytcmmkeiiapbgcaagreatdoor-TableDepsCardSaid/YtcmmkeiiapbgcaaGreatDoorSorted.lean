/- slices.Sorted(maps.Keys(m)) over a map of texts to bools gives its keys, sorted. Conditions: the keys' sizes and their number are bounded. -/
import Derived.Test.YtcmmkeiiapbgcaaGreatDoorMap
import Derived.Test.YtcmmkeiiapbgcaaGreatDoorIter
namespace Go.Proofs.YtcmmkeiiapbgcaaGreatDoor
open Go Go.RowKit Go.MapKept Go.Maps

def sortS (l : List ByteArray) : List ByteArray := ((l.map fun s => s.data.toList).mergeSort fun x y => decide (x ≤ y)).map fun b => ⟨b.toArray⟩
theorem sort_perm {l l' : List (List UInt8)} (h : l.Perm l') : l.mergeSort (fun x y => decide (x ≤ y)) = l'.mergeSort (fun x y => decide (x ≤ y)) := by
  have tr : ∀ a b c : List UInt8, decide (a ≤ b) = true → decide (b ≤ c) = true → decide (a ≤ c) = true := by
    intro a b c h1 h2
    simp only [decide_eq_true_eq] at *
    exact List.le_trans h1 h2
  have tot : ∀ a b : List UInt8, (decide (a ≤ b) || decide (b ≤ a)) = true := by
    intro a b
    simp only [Bool.or_eq_true, decide_eq_true_eq]
    exact List.le_total a b
  have s1 := List.pairwise_mergeSort tr tot l
  have s2 := List.pairwise_mergeSort tr tot l'
  have hp : (l.mergeSort fun x y => decide (x ≤ y)).Perm (l'.mergeSort fun x y => decide (x ≤ y)) := ((List.mergeSort_perm l _).trans h).trans (List.mergeSort_perm l' _).symm
  refine hp.eq_of_pairwise ?_ s1 s2
  intro a b _ _ h1 h2
  simp only [decide_eq_true_eq] at h1 h2
  exact List.le_antisymm h1 h2

theorem MapIs.owns {w : World} {b : Nat} {m : List (ByteArray × Value)} (h : MapIs w b (fun s : ByteArray => Value.string s) m) (hb : ∀ p ∈ m, p.2 = .bool true) (hk : ∀ p ∈ m, p.1.size ≤ 4294967296) (hm : m.length ≤ 4294967296) :
    ∃ D0 : DataW Unit, w.ownsMap Tryz.prog 9 (plainElem Tryz.prog 4) b m.length D0 ∧ (strKeys D0).Perm (m.map fun p => p.1.data.toList) ∧ Maps.size D0 = m.length := by
  obtain ⟨es, cl, h1, h2, hst⟩ := h
  have hl : es.size = m.length := by
    have := congrArg List.length h2
    simpa using this
  have hrd : ∀ x ∈ es.toList, ∃ p ∈ m, x.key = .string p.1 ∧ WideElems.rd (H := Unit) Tryz.prog 9 (plainElem Tryz.prog 4) x = some (.string p.1.data.toList, .lit (.bool true)) := by
    intro x hx
    have h5 : (x.key, x.val) ∈ es.toList.map (fun e => (e.key, e.val)) := List.mem_map_of_mem hx
    rw [h2] at h5
    obtain ⟨p, hp, hpe⟩ := List.mem_map.1 h5
    injection hpe with hpe1 hpe2
    refine ⟨p, hp, hpe1.symm, ?_⟩
    have hkk := _root_.Go.WideMaps.keyOf_string_mk (P := Tryz.prog) Tryz.underlying9 (s := p.1) (by have := hk p hp; unfold maxLen; omega)
    unfold WideElems.rd
    rw [← hpe1, hkk, ← hpe2, hb p hp]
    simp [plainElem, Tryz.underlying4]
  refine ⟨_, ⟨es, cl, h1, ⟨by rw [hl]; unfold maxLen; omega, hst, fun x hx => ?_⟩, by omega, rfl⟩, ?_, ?_⟩
  · obtain ⟨p, _, _, hr⟩ := hrd x hx
    exact ⟨_, hr⟩
  · show (((es.toList.map (WideElems.rg Tryz.prog 9 (plainElem Tryz.prog 4))).foldr DataW.insert []).map fun p => strOf p.1).Perm _
    refine ((WideShapes.sorted_perm _).map _).trans ?_
    have : ((es.toList.map (WideElems.rg (H := Unit) Tryz.prog 9 (plainElem Tryz.prog 4))).map fun p => strOf p.1) = m.map fun p => p.1.data.toList := by
      rw [List.map_map]
      have e1 : es.toList.map ((fun p => strOf p.1) ∘ WideElems.rg (H := Unit) Tryz.prog 9 (plainElem Tryz.prog 4)) = (es.toList.map (fun e => (e.key, e.val))).map (fun q => match q.1 with | .string s => s.data.toList | _ => []) := by
        rw [List.map_map]
        refine List.map_congr_left fun x hx => ?_
        obtain ⟨p, _, hkey, hr⟩ := hrd x hx
        simp [WideElems.rg, hr, hkey, strOf]
      rw [e1, h2, List.map_map]
      rfl
    rw [this]
  · have : (((es.toList.map (WideElems.rg (H := Unit) Tryz.prog 9 (plainElem Tryz.prog 4))).foldr DataW.insert [])).length = es.size := by
      rw [(WideShapes.sorted_perm _).length_eq]
      simp
    simpa [Maps.size, hl] using this

theorem maps_Keys (b : Nat) (w : World) : Calls Tryz.prog 70 #[.map (some b)] w fun e w' =>
    e = .returned (.func (.func 110) #[] #[.pointer (some ⟨w.heap.size, 0, none⟩)]) ∧ w.alloc (.cells #[.map (some b)] 90) = w' :=
  (callsIn_wide.1 (Tryz.maps_Keys_70 (some b) w)).mono fun _ _ ⟨h1, h2⟩ => ⟨h1, h2.symm⟩

/-- What a call that answers texts in new memory leaves. -/
theorem slices_Sorted (b : Nat) (m : List (ByteArray × Value)) (w : World) (h : MapIs w b (fun s : ByteArray => Value.string s) m) (hb : ∀ p ∈ m, p.2 = .bool true) (hk : ∀ p ∈ m, p.1.size ≤ 4294967296) (hm : m.length ≤ 4294967296) :
    Calls Tryz.prog 69 #[.func (.func 110) #[] #[.pointer (some ⟨w.heap.size, 0, none⟩)]] (w.alloc (.cells #[.map (some b)] 90))
      (RetSs (w.alloc (.cells #[.map (some b)] 90)) (sortS (m.map (·.1)))) := by
  obtain ⟨D0, ho, hp, hs⟩ := h.owns hb hk hm
  refine (callsIn_wide.1 (Tryz.slices_Sorted_keys_69_70 b m.length D0 _ w ho (by rw [hs]; unfold maxLen; omega) (by rw [hs]; omega))).mono ?_
  rintro e w' ⟨v, ss, rfl, hperm, hrow, _, hbel⟩
  have hss : ss.mergeSort (fun x y => decide (x ≤ y)) = ((m.map (·.1)).map fun s => s.data.toList).mergeSort (fun x y => decide (x ≤ y)) := by
    refine sort_perm (hperm.trans ?_)
    rw [List.map_map]
    exact hp
  have hmap : (ss.mergeSort (fun x y => decide (x ≤ y))).map encStr = (sortS (m.map (·.1))).map Value.string := by
    rw [hss]
    unfold sortS
    generalize (((m.map (·.1)).map fun s => s.data.toList).mergeSort fun x y => decide (x ≤ y)) = l
    rw [List.map_map]
    rfl
  have hlen : ss.length = (sortS (m.map (·.1))).length := by
    have := congrArg List.length hmap
    simpa using this
  rw [hmap, hlen] at hrow
  have hform : ∃ A c, v = .slice A (sortS (m.map (·.1))).length c := by
    rcases hrow.2 with ⟨hv, h0⟩ | ⟨g, cap, cur, hv, _⟩
    · exact ⟨none, 0, by rw [hv, h0]⟩
    · exact ⟨_, _, hv⟩
  obtain ⟨A, c, rfl⟩ := hform
  refine ⟨A, c, rfl, Own.cap hrow, ⟨Rd.of_own hrow, ?_, ?_⟩, hbel⟩
  · have : (sortS (m.map (·.1))).length = m.length := by simp [sortS]
    omega
  · intro s hs2
    unfold sortS at hs2
    obtain ⟨l, hl, rfl⟩ := List.mem_map.1 hs2
    have hl2 := (List.mergeSort_perm _ _).mem_iff.1 hl
    obtain ⟨t, ht, rfl⟩ := List.mem_map.1 hl2
    obtain ⟨p, hp2, rfl⟩ := List.mem_map.1 ht
    have h9 := hk p hp2
    have h8 : (⟨p.1.data.toList.toArray⟩ : ByteArray) = p.1 := by cases p.1; simp
    rw [h8]
    exact h9
end Go.Proofs.YtcmmkeiiapbgcaaGreatDoor
