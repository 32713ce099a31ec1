/- Helpers of the program's table.Keys: different, sets, contains, isKey, names. Conditions: the arguments read as data, indexes are in range. -/
import Derived.Test.YtcmmkeiiapbgcaaGreatDoorHolds2
import Derived.Test.YtcmmkeiiapbgcaaGreatDoorClos
namespace Go.Proofs.YtcmmkeiiapbgcaaGreatDoor
open Go Go.RowKit

set_option maxRecDepth 100000 in
set_option maxHeartbeats 400000 in
theorem table_different (l : List ByteArray) (A : Option Addr) (ca : Nat) (w : World) (S : Nat → Prop) (hA : Strs w S A l) :
    Calls Tryz.prog 80 #[.slice A l.length ca] w (RetB w (decide l.Nodup)) := by
  have hal := hA.2.1
  have HA := Lib.hid hA
  clear hA
  have hmm := @run_makeMap Tryz.prog
  go_enter Tryz.func80, Tryz.ntmps80
  go_wp2
  clear hmm
  have HSET := Lib.hid (show SetIs (w.alloc (.map #[] 0)) w.heap.size [] from MapIs.made w _)
  go_loopw [9] (fun i wr => ∃ (k : Nat) (ks : List ByteArray), k ≤ l.length ∧ i = .int .i64 k ∧ Ext w wr ∧ SetIs wr w.heap.size ks ∧ ks.length ≤ k ∧ (ks.length = k ↔ (l.take k).Nodup) ∧ (∀ x, x ∈ ks ↔ x ∈ l.take k)) (fun i _ => l.length - (intOf i).toNat)
  case atStart => exact ⟨0, [], Nat.zero_le _, rfl, (Ext.refl w).alloc _, HSET.out, Nat.le_refl _, by simp, by simp⟩
  case round =>
    clear HSET
    obtain ⟨k, ks, hk, rfl, hext, hset, h1, h2, h3⟩ := hrel
    have HE := Lib.hid hext
    have HS := Lib.hid hset
    have H2 := Lib.hid h2
    have H3 := Lib.hid h3
    clear h2 h3
    by_cases hlt : k < l.length
    · obtain ⟨b1, o1, rfl, z1, c1⟩ := (HA.out.keep (hext.kept S)).at_ hlt
      obtain ⟨w', ks', hup, hset', hg', hks⟩ := hset.put l[k]
      have HS' := Lib.hid hset'
      have HG' := Lib.hid hg'
      have HKS := Lib.hid hks
      clear hset' hg' hks hext hset
      go_wp2
      go_roundw
      case rel =>
        have htk : l.take (k + 1) = l.take k ++ [l[k]] := List.take_succ_eq_append_getElem hlt
        have hnd : (l.take (k + 1)).Nodup ↔ (l.take k).Nodup ∧ l[k] ∉ l.take k := by
          rw [htk, List.nodup_append]
          constructor
          · rintro ⟨h1, _, h3⟩
            exact ⟨h1, fun h => h3 _ h _ (by simp) rfl⟩
          · rintro ⟨h1, h2⟩
            exact ⟨h1, by simp, fun a ha b hb e => by simp at hb; subst hb; subst e; exact h2 ha⟩
        refine ⟨k + 1, ks', by omega, by go_num, HE.out.grown HG'.out (fun b hb => by injection hb with hb; omega), HS'.out, ?_, ?_, fun x => ?_⟩
        · rcases HKS.out with ⟨_, rfl⟩ | ⟨_, rfl⟩
          · omega
          · simp; omega
        · rw [hnd, ← H2.out, ← H3.out]
          rcases HKS.out with ⟨hm, rfl⟩ | ⟨hn, rfl⟩
          · constructor
            · intro h; omega
            · rintro ⟨_, h⟩; exact absurd hm h
          · simp only [List.length_append, List.length_singleton]
            constructor
            · intro h; exact ⟨by omega, hn⟩
            · rintro ⟨h, _⟩; omega
        · rw [htk, List.mem_append, ← H3.out]
          rcases HKS.out with ⟨hm, rfl⟩ | ⟨hn, rfl⟩
          · constructor
            · intro h; exact Or.inl h
            · rintro (h | h)
              · exact h
              · simp at h; subst h; exact hm
          · rw [List.mem_append]
      case measure => simp [intOf]; omega
    · obtain rfl : k = l.length := by omega
      have hlen := hset.len 3
      have hnd := H2.out
      rw [List.take_of_length_le (Nat.le_refl _)] at hnd
      have HND := Lib.hid hnd
      clear hnd hext hset
      go_wp2
      go_ret
      refine ⟨?_, HE.out⟩
      by_cases hd : l.Nodup
      · rw [decide_eq_true hd]
        have := HND.out.2 hd
        simp [this]
      · rw [decide_eq_false hd]
        have : ¬ ks.length = l.length := fun e => hd (HND.out.1 e)
        simp [this]
        omega

/-- The place of an int in a list; -1, if it is not there. -/
def idxI (l : List Int) (v : Int) : Int := idxF (fun x => decide (v = x)) l
set_option maxRecDepth 100000 in
set_option maxHeartbeats 400000 in
theorem slices_IndexI (A : Option Addr) (c : Nat) (l : List Int) (v : Int) (w : World) (S : Nat → Prop) (h : Ints w S A l) :
    Calls Tryz.prog 118 #[.slice A l.length c, .int .i64 v] w (SameI w (idxI l v)) := by
  have hn := h.2
  go_enter Tryz.func118, Tryz.ntmps118
  go_wp2
  go_loop [8] (fun i => ∃ k : Nat, k ≤ l.length ∧ i = .int .i64 k ∧ ∀ j (h : j < l.length), j < k → (fun x => decide (v = x)) l[j] = false) (fun i => l.length - (intOf i).toNat)
  case atStart => exact ⟨0, Nat.zero_le _, rfl, by intros; omega⟩
  case round =>
    obtain ⟨k, hk, rfl, hall⟩ := hrel
    have HA := Lib.hid hall
    clear hall
    by_cases hlt : k < l.length
    · obtain ⟨b1, o1, rfl, z1, c1⟩ := h.at_ hlt
      by_cases hv : v = l[k]
      · have ht : (v == l[k]) = true := by simp [hv]
        have HV := Lib.hid (show decide (v = l[k]) = true by simp [hv])
        clear hv
        go_wp2
        go_ret
        exact ⟨by unfold idxI; rw [idxF_found hlt HA.out HV.out]; rfl, rfl⟩
      · have ht : (v == l[k]) = false := by simp [hv]
        have HV := Lib.hid (show decide (v = l[k]) = false by simp [hv])
        clear hv
        go_wp2
        go_round
        case rel =>
          refine ⟨k + 1, by omega, by go_num, fun j h hj => ?_⟩
          by_cases hjk : j = k
          · subst hjk; exact HV.out
          · exact HA.out j h (by omega)
        case measure => simp [intOf]; omega
    · go_wp2
      go_ret
      exact ⟨by unfold idxI; rw [idxF_none (fun j hj => HA.out j hj (by omega))]; rfl, rfl⟩
def memI (l : List Int) (v : Int) : Bool := l.any fun x => decide (v = x)
set_option maxRecDepth 100000 in
set_option maxHeartbeats 400000 in
theorem slices_ContainsI (A : Option Addr) (c : Nat) (l : List Int) (v : Int) (w : World) (S : Nat → Prop) (h : Ints w S A l) :
    Calls Tryz.prog 86 #[.slice A l.length c, .int .i64 v] w (SameB w (memI l v)) := by
  have H := Lib.hid h
  clear h
  go_enter Tryz.func86, Tryz.ntmps86
  go_wp2_with (go_at_call 118; refine (slices_IndexI _ _ _ _ _ S H.out).mono ?_; rintro e w' ⟨rfl, rfl⟩)
  go_ret
  exact ⟨by unfold memI; rw [← idxF_any]; rfl, rfl⟩
set_option maxRecDepth 100000 in
set_option maxHeartbeats 400000 in
theorem table_contains1 (x : Int) (g : Nat) (A : Option Addr) (c : Nat) (l : List Int) (w : World) (S : Nat → Prop) (hb : w.cell? ⟨g, 0, none⟩ = some (.slice A l.length c)) (h : Ints w S A l) :
    Calls Tryz.prog 116 #[.int .i64 x, .pointer (some ⟨g, 0, none⟩)] w (SameB w (!memI l x)) := by
  have H := Lib.hid h
  clear h
  go_enter Tryz.func116, Tryz.ntmps116
  go_wp2_with (go_at_call 86; refine (slices_ContainsI _ _ _ _ _ S H.out).mono ?_; rintro e w' ⟨rfl, rfl⟩)
  go_ret
  exact ⟨rfl, rfl⟩

set_option maxRecDepth 100000 in
set_option maxHeartbeats 400000 in
theorem slices_IndexFuncI (l m : List Int) (A B : Option Addr) (c cb g : Nat) (w : World) (S T : Nat → Prop) (hl : Ints w S A l) (hb : w.cell? ⟨g, 0, none⟩ = some (.slice B m.length cb)) (h : Ints w T B m) :
    Calls Tryz.prog 144 #[.slice A l.length c, .func (.func 116) #[] #[.pointer (some ⟨g, 0, none⟩)]] w (SameI w (idxF (fun x => !memI m x) l)) := by
  have hn := hl.2
  have HB := Lib.hid hb
  have HS := Lib.hid h
  clear hb h
  go_enter Tryz.func144, Tryz.ntmps144
  go_wp2
  go_loop [8] (fun i => ∃ k : Nat, k ≤ l.length ∧ i = .int .i64 k ∧ ∀ j (h : j < l.length), j < k → (fun x => !memI m x) l[j] = false) (fun i => l.length - (intOf i).toNat)
  case atStart => exact ⟨0, Nat.zero_le _, rfl, by intros; omega⟩
  case round =>
    obtain ⟨k, hk, rfl, hall⟩ := hrel
    have HA := Lib.hid hall
    clear hall
    by_cases hlt : k < l.length
    · obtain ⟨b1, o1, rfl, z1, c1⟩ := hl.at_ hlt
      cases hm : memI m l[k]
      · have HM := Lib.hid hm
        clear hm
        go_wp2_with (go_at_call 116; refine (table_contains1 _ g B cb m _ T HB.out HS.out).mono ?_; rintro e w' ⟨rfl, rfl⟩; rw [HM.out])
        go_ret
        exact ⟨by rw [idxF_found hlt HA.out (by simp [HM.out])]; rfl, rfl⟩
      · have HM := Lib.hid hm
        clear hm
        go_wp2_with (go_at_call 116; refine (table_contains1 _ g B cb m _ T HB.out HS.out).mono ?_; rintro e w' ⟨rfl, rfl⟩; rw [HM.out])
        go_round
        case rel =>
          refine ⟨k + 1, by omega, by go_num, fun j h hj => ?_⟩
          by_cases hjk : j = k
          · subst hjk; simp [HM.out]
          · exact HA.out j h (by omega)
        case measure => simp [intOf]; omega
    · go_wp2
      go_ret
      exact ⟨by rw [idxF_none (fun j hj => HA.out j hj (by omega))]; rfl, rfl⟩
set_option maxRecDepth 100000 in
set_option maxHeartbeats 400000 in
theorem slices_ContainsFuncI (l m : List Int) (A B : Option Addr) (c cb g : Nat) (w : World) (S T : Nat → Prop) (hl : Ints w S A l) (hb : w.cell? ⟨g, 0, none⟩ = some (.slice B m.length cb)) (h : Ints w T B m) :
    Calls Tryz.prog 115 #[.slice A l.length c, .func (.func 116) #[] #[.pointer (some ⟨g, 0, none⟩)]] w (SameB w (l.any fun x => !memI m x)) := by
  have HB := Lib.hid hb
  have HS := Lib.hid h
  have HL := Lib.hid hl
  clear hb h hl
  go_enter Tryz.func115, Tryz.ntmps115
  go_wp2_with (go_at_call 144; refine (slices_IndexFuncI _ m _ B _ cb g _ S T HL.out HB.out HS.out).mono ?_; rintro e w' ⟨rfl, rfl⟩)
  go_ret
  exact ⟨by rw [← idxF_any]; rfl, rfl⟩
def subI (l m : List Int) : Bool := !(l.any fun x => !memI m x)
set_option maxRecDepth 100000 in
set_option maxHeartbeats 400000 in
theorem table_contains (l m : List Int) (A B : Option Addr) (c cb : Nat) (w : World) (S T : Nat → Prop) (hl : Ints w S A l) (h : Ints w T B m) :
    Calls Tryz.prog 84 #[.slice A l.length c, .slice B m.length cb] w (RetB w (subI l m)) := by
  have HS := Lib.hid h
  have HL := Lib.hid hl
  clear h hl
  go_enter Tryz.func84, Tryz.ntmps84
  go_wp2_with fail
  refine (slices_ContainsFuncI l m A B c cb w.heap.size _ S T (HL.out.keep (Kept.alloc _ _ _)) ((Blk.new w 22 #[.slice B m.length cb]).cell rfl) (HS.out.keep (Kept.alloc _ _ _))).mono ?_
  rintro e w' ⟨rfl, rfl⟩
  go_wp2
  go_ret
  exact ⟨rfl, (Ext.refl w).alloc _⟩
set_option maxRecDepth 100000 in
set_option maxHeartbeats 400000 in
theorem table_Keys1 (l m : List Int) (A B : Option Addr) (c cb g : Nat) (w : World) (S T : Nat → Prop) (hl : Ints w S A l) (hb : w.cell? ⟨g, 0, none⟩ = some (.slice B m.length cb)) (h : Ints w T B m) :
    Calls Tryz.prog 83 #[.slice A l.length c, .pointer (some ⟨g, 0, none⟩)] w (RetB w (subI l m)) := by
  have HS := Lib.hid h
  have HL := Lib.hid hl
  clear h hl
  go_enter Tryz.func83, Tryz.ntmps83
  go_wp2_with fail
  refine (table_contains l m A B c cb _ S T HL.out HS.out).mono ?_
  rintro e w' ⟨rfl, hx⟩
  have HX := Lib.hid hx
  clear hx
  go_wp2
  go_ret
  exact ⟨rfl, HX.out⟩
set_option maxRecDepth 100000 in
set_option maxHeartbeats 400000 in
theorem table_isKey1 (gs l : List Int) (A B : Option Addr) (c cb g : Nat) (w : World) (S T : Nat → Prop) (hl : Ints w S A l) (hb : w.cell? ⟨g, 0, none⟩ = some (.slice B gs.length cb)) (h : Ints w T B gs) (hll : l.length = gs.length) :
    Calls Tryz.prog 117 #[.slice A l.length c, .pointer (some ⟨g, 0, none⟩)] w (RetB w (!consB gs l)) := by
  have HS := Lib.hid h
  have HL := Lib.hid hl
  have HLL := Lib.hid hll
  clear h hl hll
  go_enter Tryz.func117, Tryz.ntmps117
  go_wp2_with fail
  refine (table_decides gs l B A cb c _ T S HS.out HL.out HLL.out).mono ?_
  rintro e w' ⟨rfl, hx⟩
  have HX := Lib.hid hx
  clear hx
  go_wp2
  go_ret
  exact ⟨rfl, HX.out⟩
end Go.Proofs.YtcmmkeiiapbgcaaGreatDoor
