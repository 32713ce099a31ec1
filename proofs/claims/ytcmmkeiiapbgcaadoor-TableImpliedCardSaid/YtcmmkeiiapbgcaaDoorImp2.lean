/- The law's column: a name in a list, if it is one of the columns. Conditions: the columns read as data. -/
import Derived.Test.YtcmmkeiiapbgcaaDoorImp1
namespace Go.Proofs.YtcmmkeiiapbgcaaDoor
open Go Go.RowKit

def colS (cols : List ByteArray) (v : ByteArray) : List ByteArray := if memS cols v = true then [v] else []
set_option maxRecDepth 100000 in
set_option maxHeartbeats 400000 in
theorem law_column (A : Option Addr) (c : Nat) (l : List ByteArray) (v : ByteArray) (w : World) (S : Nat → Prop) (h : Strs w S A l) (hv : v.size ≤ 4294967296) :
    Calls Tryd.prog 11 #[.slice A l.length c, .string v] w (RetSs w (colS l v)) := by
  have hn := h.2.1
  go_enter Tryd.func11, Tryd.ntmps11
  go_wp2
  go_loop [5] (fun i => ∃ k : Nat, k ≤ l.length ∧ i = .int .i64 k ∧ ∀ j (h : j < l.length), j < k → l[j] ≠ v) (fun i => l.length - (intOf i).toNat)
  case atStart => exact ⟨0, Nat.zero_le _, rfl, by intros; omega⟩
  case round =>
    obtain ⟨k, hk, rfl, hall⟩ := hrel
    have HA := Lib.hid hall
    clear hall
    by_cases hlt : k < l.length
    · obtain ⟨b1, o1, rfl, z1, c1⟩ := h.at_ hlt
      by_cases hv2 : l[k] = v
      · have ht : (l[k].toList == v.toList) = true := by rw [bytes_beq]; simp [hv2]
        have HV := Lib.hid hv2
        clear hv2
        go_wp2
        go_ret
        have hm : colS l v = [v] := by unfold colS; rw [if_pos ((memS_iff l v).2 (by rw [← HV.out]; exact List.getElem_mem hlt))]
        refine ⟨some ⟨w.heap.size, 0, none⟩, 1, by rw [hm]; rfl, by rw [hm]; exact Nat.le_refl _, ?_, (Ext.refl w).alloc _⟩
        rw [hm]
        exact (Strs.of_blk (Blk.new w 9 #[.string v]) rfl (by simp) (by intro x hx; simp at hx; subst hx; exact hv)).mono fun i _ hi => by unfold Fresh; omega
      · have ht : (l[k].toList == v.toList) = false := by rw [bytes_beq]; simp [hv2]
        have HV := Lib.hid hv2
        clear hv2
        go_wp2
        go_round
        case rel =>
          refine ⟨k + 1, by omega, by go_num, fun j h hj => ?_⟩
          by_cases hjk : j = k
          · subst hjk; exact HV.out
          · exact HA.out j h (by omega)
        case measure => simp [intOf]; omega
    · go_wp2
      go_ret
      have hm : colS l v = [] := by
        unfold colS
        rw [if_neg]
        intro e
        obtain ⟨j, hj, hje⟩ := List.getElem_of_mem ((memS_iff l v).1 e)
        exact HA.out j hj (by omega) hje
      exact ⟨none, 0, by rw [hm]; rfl, by rw [hm]; exact Nat.le_refl _, by rw [hm]; exact Strs.nil, Ext.refl w⟩
end Go.Proofs.YtcmmkeiiapbgcaaDoor
