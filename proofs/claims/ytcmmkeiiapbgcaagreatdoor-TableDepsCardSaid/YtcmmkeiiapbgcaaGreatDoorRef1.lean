/- The reference's index and square. Conditions: the arguments read as data. -/
import Derived.Test.YtcmmkeiiapbgcaaGreatDoorImp1
namespace Go.Proofs.YtcmmkeiiapbgcaaGreatDoor
open Go Go.RowKit

set_option maxRecDepth 100000 in
set_option maxHeartbeats 400000 in
theorem r09_index (A : Option Addr) (c : Nat) (l : List ByteArray) (v : ByteArray) (w : World) (S : Nat → Prop) (h : Strs w S A l) :
    Calls Tryz.prog 48 #[.slice A l.length c, .string v] w (SameI w (idxS l v)) := by
  have hn := h.2.1
  go_enter Tryz.func48, Tryz.ntmps48
  go_wp2
  go_loop [5] (fun i => ∃ k : Nat, k ≤ l.length ∧ i = .int .i64 k ∧ ∀ j (h : j < l.length), j < k → l[j] ≠ v) (fun i => l.length - (intOf i).toNat)
  case atStart => exact ⟨0, Nat.zero_le _, rfl, by intros; omega⟩
  case round =>
    obtain ⟨k, hk, rfl, hall⟩ := hrel
    have HA := Lib.hid hall
    clear hall
    by_cases hlt : k < l.length
    · obtain ⟨b1, o1, rfl, z1, c1⟩ := h.at_ hlt
      by_cases hv : l[k] = v
      · have ht : (l[k].toList == v.toList) = true := by rw [bytes_beq]; simp [hv]
        have HV := Lib.hid hv
        clear hv
        go_wp2
        go_ret
        exact ⟨by rw [idxS_found hlt (fun j hj h => HA.out j hj h) HV.out]; rfl, rfl⟩
      · have ht : (l[k].toList == v.toList) = false := by rw [bytes_beq]; simp [hv]
        have HV := Lib.hid hv
        clear hv
        go_wp2
        go_round
        case rel =>
          refine ⟨k + 1, by omega, by go_num, fun j h hj => ?_⟩
          by_cases hjk : j = k
          · subst hjk; exact HV.out
          · exact HA.out j h (by omega)
        case measure => simp [intOf]; omega
    · go_wp2
      go_ret
      exact ⟨by rw [idxS_none (fun j hj => HA.out j hj (by omega))]; rfl, rfl⟩
set_option maxRecDepth 100000 in
set_option maxHeartbeats 400000 in
theorem r09_square (q : Nat) (cols : List ByteArray) (rows : List (List Val)) (A B : Option Addr) (c e : Nat) (w : World) (S : Nat → Prop) (hcl : cols.length ≤ 4294967296) (hB : Rows w S q B rows) :
    Calls Tryz.prog 66 #[.slice A cols.length c, .slice B rows.length e] w (SameB w (regB cols rows)) := by
  have hn := hB.len
  have HB := Lib.hid hB
  clear hB
  go_enter Tryz.func66, Tryz.ntmps66
  go_wp2
  go_loop [5] (fun i => ∃ k : Nat, k ≤ rows.length ∧ i = .int .i64 k ∧ ∀ j (h : j < rows.length), j < k → rows[j].length = cols.length) (fun i => rows.length - (intOf i).toNat)
  case atStart => exact ⟨0, Nat.zero_le _, rfl, by intros; omega⟩
  case round =>
    obtain ⟨k, hk, rfl, hall⟩ := hrel
    have HA := Lib.hid hall
    clear hall
    by_cases hlt : k < rows.length
    · obtain ⟨b1, o1, C1, e1, rfl, z1, c1, hce, hrow⟩ := HB.out.at_ hlt
      have hrl := hrow.len
      clear hrow
      by_cases hv : rows[k].length = cols.length
      · have ht : (((rows[k].length : Nat) : Int) != ((cols.length : Nat) : Int)) = false := by simp [hv]
        have HV := Lib.hid hv
        clear hv
        go_wp2
        go_round
        case rel =>
          refine ⟨k + 1, by omega, by go_num, fun j h hj => ?_⟩
          by_cases hjk : j = k
          · subst hjk; exact HV.out
          · exact HA.out j h (by omega)
        case measure => simp [intOf]; omega
      · have ht : (((rows[k].length : Nat) : Int) != ((cols.length : Nat) : Int)) = true := by simp; omega
        have HV := Lib.hid hv
        clear hv
        go_wp2
        go_ret
        refine ⟨?_, rfl⟩
        have hr : regB cols rows = false := all_not _ _ k hlt (by simp [HV.out])
        rw [hr]
        rfl
    · go_wp2
      go_ret
      refine ⟨?_, rfl⟩
      have hr : regB cols rows = true := all_take _ _ fun j hj => by simp [HA.out j hj (by omega)]
      rw [hr]
      rfl
end Go.Proofs.YtcmmkeiiapbgcaaGreatDoor
