/- Helpers of the program's table.Keys: ContainsFunc over lists of ints, isKey, names, sets. Conditions: the arguments read as data, indexes are in range. -/
import Derived.Test.YtcmmkeiiapbgcaaGreatDoorKeys1
namespace Go.Proofs.YtcmmkeiiapbgcaaGreatDoor
open Go Go.RowKit

set_option maxRecDepth 100000 in
set_option maxHeartbeats 400000 in
theorem slices_IndexFuncK (ls : List (List Int)) (m : List Int) (A B : Option Addr) (c cb g : Nat) (w : World) (S T : Nat → Prop) (hl : RIss w S A ls) (hb : w.cell? ⟨g, 0, none⟩ = some (.slice B m.length cb)) (h : Ints w T B m) :
    Calls Tryz.prog 114 #[.slice A ls.length c, .func (.func 83) #[] #[.pointer (some ⟨g, 0, none⟩)]] w (RetI w (idxF (fun l => subI l m) ls)) := by
  have hn := hl.1
  have HB := Lib.hid hb
  have HS := Lib.hid h
  have HLS := Lib.hid hl
  clear hb h hl
  go_enter Tryz.func114, Tryz.ntmps114
  go_wp2
  go_loopw [8] (fun i wr => ∃ k : Nat, k ≤ ls.length ∧ i = .int .i64 k ∧ Ext w wr ∧ ∀ j (h : j < ls.length), j < k → (fun l => subI l m) ls[j] = false) (fun i _ => ls.length - (intOf i).toNat)
  case atStart => exact ⟨0, Nat.zero_le _, rfl, Ext.refl _, by intros; omega⟩
  case round =>
    obtain ⟨k, hk, rfl, hext, hall⟩ := hrel
    have HA := Lib.hid hall
    have HE := Lib.hid hext
    clear hall
    by_cases hlt : k < ls.length
    · obtain ⟨b1, o1, B2, c2, rfl, z1, p0, hcp, hint⟩ := (HLS.out.keep (hext.kept S)).at_ hlt
      have HINT := Lib.hid hint
      clear hint hext
      go_wp2_with fail
      refine (table_Keys1 ls[k] m B2 B c2 cb g _ S T HINT.out (HE.out.cell HB.out) (HS.out.keep (HE.out.kept T))).mono ?_
      rintro e w1 ⟨rfl, hx1⟩
      have HX1 := Lib.hid (HE.out.trans hx1)
      clear hx1
      cases hq : (subI ls[k] m)
      · have HQ := Lib.hid hq
        clear hq
        go_wp2
        go_roundw
        case rel =>
          refine ⟨k + 1, by omega, by go_num, HX1.out, fun j h hj => ?_⟩
          by_cases hjk : j = k
          · subst hjk; exact HQ.out
          · exact HA.out j h (by omega)
        case measure => simp [intOf]; omega
      · have HF := Lib.hid (idxF_found (p := fun l => subI l m) hlt HA.out hq)
        clear hq
        go_wp2
        go_ret
        exact ⟨by rw [HF.out]; rfl, HX1.out⟩
    · have HF := Lib.hid (idxF_none (p := fun l => subI l m) (l := ls) (fun j h => HA.out j h (by omega)))
      clear hext
      go_wp2
      go_ret
      exact ⟨by rw [HF.out]; rfl, HE.out⟩
set_option maxRecDepth 100000 in
set_option maxHeartbeats 400000 in
theorem slices_ContainsFuncK (ls : List (List Int)) (m : List Int) (A B : Option Addr) (c cb g : Nat) (w : World) (S T : Nat → Prop) (hl : RIss w S A ls) (hb : w.cell? ⟨g, 0, none⟩ = some (.slice B m.length cb)) (h : Ints w T B m) :
    Calls Tryz.prog 82 #[.slice A ls.length c, .func (.func 83) #[] #[.pointer (some ⟨g, 0, none⟩)]] w (RetB w (ls.any fun l => subI l m)) := by
  have HB := Lib.hid hb
  have HS := Lib.hid h
  have HLS := Lib.hid hl
  clear hb h hl
  go_enter Tryz.func82, Tryz.ntmps82
  go_wp2_with fail
  refine (slices_IndexFuncK ls m A B c cb g _ S T HLS.out HB.out HS.out).mono ?_
  rintro e w1 ⟨rfl, hx1⟩
  have HX1 := Lib.hid hx1
  clear hx1
  go_wp2
  go_ret
  exact ⟨by rw [← idxF_any]; rfl, HX1.out⟩

set_option maxRecDepth 100000 in
set_option maxHeartbeats 400000 in
theorem slices_IndexFuncD (ls : List (List Int)) (m : List Int) (A B : Option Addr) (c cb g : Nat) (w : World) (S T : Nat → Prop) (hl : RIss w S A ls) (hb : w.cell? ⟨g, 0, none⟩ = some (.slice B m.length cb)) (h : Ints w T B m) (hll : ∀ l ∈ ls, l.length = m.length) :
    Calls Tryz.prog 114 #[.slice A ls.length c, .func (.func 117) #[] #[.pointer (some ⟨g, 0, none⟩)]] w (RetI w (idxF (fun l => !consB m l) ls)) := by
  have hn := hl.1
  have HB := Lib.hid hb
  have HS := Lib.hid h
  have HLS := Lib.hid hl
  have HLL := Lib.hid hll
  clear hll
  clear hb h hl
  go_enter Tryz.func114, Tryz.ntmps114
  go_wp2
  go_loopw [8] (fun i wr => ∃ k : Nat, k ≤ ls.length ∧ i = .int .i64 k ∧ Ext w wr ∧ ∀ j (h : j < ls.length), j < k → (fun l => !consB m l) ls[j] = false) (fun i _ => ls.length - (intOf i).toNat)
  case atStart => exact ⟨0, Nat.zero_le _, rfl, Ext.refl _, by intros; omega⟩
  case round =>
    obtain ⟨k, hk, rfl, hext, hall⟩ := hrel
    have HA := Lib.hid hall
    have HE := Lib.hid hext
    clear hall
    by_cases hlt : k < ls.length
    · obtain ⟨b1, o1, B2, c2, rfl, z1, p0, hcp, hint⟩ := (HLS.out.keep (hext.kept S)).at_ hlt
      have HINT := Lib.hid hint
      clear hint hext
      go_wp2_with fail
      refine (table_isKey1 m ls[k] B2 B c2 cb g _ S T HINT.out (HE.out.cell HB.out) (HS.out.keep (HE.out.kept T)) (HLL.out _ (List.getElem_mem hlt))).mono ?_
      rintro e w1 ⟨rfl, hx1⟩
      have HX1 := Lib.hid (HE.out.trans hx1)
      clear hx1
      cases hq : (!consB m ls[k])
      · have HQ := Lib.hid hq
        clear hq
        go_wp2
        go_roundw
        case rel =>
          refine ⟨k + 1, by omega, by go_num, HX1.out, fun j h hj => ?_⟩
          by_cases hjk : j = k
          · subst hjk; exact HQ.out
          · exact HA.out j h (by omega)
        case measure => simp [intOf]; omega
      · have HF := Lib.hid (idxF_found (p := fun l => !consB m l) hlt HA.out hq)
        clear hq
        go_wp2
        go_ret
        exact ⟨by rw [HF.out]; rfl, HX1.out⟩
    · have HF := Lib.hid (idxF_none (p := fun l => !consB m l) (l := ls) (fun j h => HA.out j h (by omega)))
      clear hext
      go_wp2
      go_ret
      exact ⟨by rw [HF.out]; rfl, HE.out⟩
set_option maxRecDepth 100000 in
set_option maxHeartbeats 400000 in
theorem slices_ContainsFuncD (ls : List (List Int)) (m : List Int) (A B : Option Addr) (c cb g : Nat) (w : World) (S T : Nat → Prop) (hl : RIss w S A ls) (hb : w.cell? ⟨g, 0, none⟩ = some (.slice B m.length cb)) (h : Ints w T B m) (hll : ∀ l ∈ ls, l.length = m.length) :
    Calls Tryz.prog 82 #[.slice A ls.length c, .func (.func 117) #[] #[.pointer (some ⟨g, 0, none⟩)]] w (RetB w (ls.any fun l => !consB m l)) := by
  have HB := Lib.hid hb
  have HS := Lib.hid h
  have HLS := Lib.hid hl
  have HLL := Lib.hid hll
  clear hll
  clear hb h hl
  go_enter Tryz.func82, Tryz.ntmps82
  go_wp2_with fail
  refine (slices_IndexFuncD ls m A B c cb g _ S T HLS.out HB.out HS.out HLL.out).mono ?_
  rintro e w1 ⟨rfl, hx1⟩
  have HX1 := Lib.hid hx1
  clear hx1
  go_wp2
  go_ret
  exact ⟨by rw [← idxF_any]; rfl, HX1.out⟩

def namesS (cols : List ByteArray) (set : List Int) : List ByteArray := set.map fun c => cols.getD c.toNat ⟨#[]⟩
set_option maxRecDepth 100000 in
set_option maxHeartbeats 400000 in
theorem table_names (cols : List ByteArray) (set : List Int) (A B : Option Addr) (ca cb : Nat) (w : World) (S T : Nat → Prop) (hA : Strs w S A cols) (hB : Ints w T B set) (hr : ∀ c ∈ set, 0 ≤ c ∧ c < (cols.length : Int)) :
    Calls Tryz.prog 87 #[.slice A cols.length ca, .slice B set.length cb] w (RetSs w (namesS cols set)) := by
  have hal := hA.2.1
  have hbl := hB.2
  have HA := Lib.hid hA
  have HB := Lib.hid hB
  have HR := Lib.hid hr
  clear hA hB hr
  obtain ⟨cur, hmk, hcur⟩ := run_mk0 tiS set.length (by omega) (by decide)
  have HCUR := Lib.hid hcur
  clear hcur
  have hnl : (namesS cols set).length = set.length := by simp [namesS]
  have HNL := Lib.hid hnl
  have hns : ∀ s ∈ namesS cols set, s.size ≤ 4294967296 := by
    intro s hs
    obtain ⟨c, hc, rfl⟩ := List.mem_map.1 hs
    have := HR.out c hc
    rw [getD_of _ _ _ (by omega)]
    exact HA.out.sz (by omega)
  have HNS := Lib.hid hns
  clear hnl hns
  go_enter Tryz.func87, Tryz.ntmps87
  go_wp2
  clear hmk
  have hst : OwnSs (w.alloc (.cells cur 9)) w.heap.size (some ⟨w.heap.size, 0, none⟩) set.length ((namesS cols set).take 0) := by
    have := Own.made w 9 1 set.length cur (by unfold maxLen; omega) HCUR.out
    exact ⟨by simpa using this, by simp⟩
  have HST := Lib.hid hst
  clear hst
  go_loopw [13, 5] (fun i v wr => ∃ (m : Nat) (A' : Option Addr) (c' : Nat), m ≤ set.length ∧ i = .int .i64 m ∧ v = .slice A' m c' ∧ Ext w wr ∧ OwnSs wr w.heap.size A' c' ((namesS cols set).take m)) (fun i _ _ => set.length - (intOf i).toNat)
  case atStart => exact ⟨0, _, _, Nat.zero_le _, rfl, rfl, (Ext.refl w).alloc _, HST.out⟩
  case round =>
    clear HST
    obtain ⟨m, A', c', hm, rfl, rfl, hext, hown⟩ := hrel
    have HE := Lib.hid hext
    have HO := Lib.hid hown
    clear hown
    by_cases hlt : m < set.length
    · obtain ⟨b1, o1, rfl, z1, c1⟩ := (HB.out.keep (hext.kept T)).at_ hlt
      have hrm := HR.out _ (List.getElem_mem hlt)
      obtain ⟨x, hx⟩ := Int.eq_ofNat_of_zero_le hrm.1
      have hx2 : x < cols.length := by omega
      rw [hx] at c1
      obtain ⟨b2, o2, rfl, z2, d1⟩ := (HA.out.keep (hext.kept S)).at_ hx2
      have hval : (namesS cols set)[m]'(by rw [HNL.out]; exact hlt) = cols[x] := by
        simp only [namesS, List.getElem_map, hx]
        rw [Int.toNat_natCast, getD_of _ _ _ hx2]
      have HVAL := Lib.hid hval
      have hlm : ((namesS cols set).take m).length = m := by rw [List.length_take, HNL.out]; omega
      have hown := (HO.out.ext ((Ext.refl wr).alloc (.cells #[.string cols[x]] 9))).1
      rw [hlm] at hown
      have HOWN := Lib.hid hown
      have hszw := HE.out.size
      clear hval hlm hown hext hrm hx
      go_wp2_with (at_builtin; go_must (refine wpList_app rfl (.tmp 17) (.tmp 22) rfl tiS rfl HOWN.out rfl (Blk.rd (Blk.new _ _ _)) rfl (by simp [Value.oneCell']) (by omega) (by decide) (by simp; omega) ?_); intro A4 c4 w4 hown4 hg4 hat4)
      go_roundw
      case rel =>
        refine ⟨m + 1, A4, c4, by omega, by go_num, rfl, Ext.grown (HE.out.alloc _) hg4 (fun b hb => (HOWN.out.blk hb).1), ?_, fun s hs => HNS.out s (List.mem_of_mem_take hs)⟩
        rw [List.take_succ_eq_append_getElem (by rw [HNL.out]; exact hlt), HVAL.out, List.length_append, List.length_take, HNL.out, Nat.min_eq_left hm, List.map_append]
        exact hown4
      case measure => simp [intOf]; omega
    · obtain rfl : m = set.length := by omega
      have ho := HO.out
      rw [List.take_of_length_le (by rw [HNL.out]; exact Nat.le_refl _)] at ho
      have HO2 := Lib.hid ho
      clear ho hext
      go_wp2
      go_ret
      exact ⟨A', c', by rw [HNL.out]; rfl, Own.cap HO2.out.1, HO2.out.strs (by rw [HNL.out]; exact hbl) (fun b hb => (Own.blk HO2.out.1 hb).1), HE.out⟩
end Go.Proofs.YtcmmkeiiapbgcaaGreatDoor
