/- Names and texts: value.letter, value.isName, value.isText answer by the bytes alone. No conditions but a bound on the text's size. -/
import Derived.Test.YtcmmkeiiapbgcaaGreatDoorCopy
namespace Go.Proofs.YtcmmkeiiapbgcaaGreatDoor
open Go Go.RowKit

def letterB (c : Int) : Bool := decide (97 ≤ c ∧ c ≤ 122 ∨ 65 ≤ c ∧ c ≤ 90)
def nameC (c : Int) : Bool := letterB c || decide (c = 95) || decide (48 ≤ c ∧ c ≤ 57)
def textC (c : Int) : Bool := decide (32 ≤ c ∧ c ≤ 126)
/-- The bytes of a text as numbers. -/
def bs (s : ByteArray) : List Int := s.data.toList.map fun c => (c.toNat : Int)
theorem bs_len (s : ByteArray) : (bs s).length = s.size := by simp [bs]
theorem bs_at (s : ByteArray) (k : Nat) (h : k < s.size) : (bs s)[k]'(by rw [bs_len]; exact h) = (s[k].toNat : Int) := by simp [bs]; rfl
def nameB (s : ByteArray) : Bool := decide (1 ≤ s.size ∧ s.size ≤ 20) && ((bs s).head?.any letterB) && (bs s).all nameC
def textB (s : ByteArray) : Bool := decide (s.size ≤ 200) && (bs s).all textC
def SameB (w : World) (b : Bool) (e : Ending) (w' : World) : Prop := e = .returned (.bool b) ∧ w = w'
theorem SameB.ret {w : World} {b : Bool} {e : Ending} {w' : World} (h : SameB w b e w') : RetB w b e w' := by
  obtain ⟨he, rfl⟩ := h
  exact ⟨he, Ext.refl w⟩

set_option maxRecDepth 100000 in
set_option maxHeartbeats 400000 in
theorem value_letter (c : Int) (w : World) : Calls Tryz.prog 148 #[.int .u8 c] w (SameB w (letterB c)) := by
  go_enter Tryz.func148, Tryz.ntmps148
  go_wp2
  all_goals
    go_ret
    refine ⟨?_, rfl⟩
    simp only [letterB]
    simp
    first | done | (rw [Bool.eq_iff_iff]; simp; omega) | omega

theorem all_take {α : Type} (l : List α) (p : α → Bool) : (∀ j (h : j < l.length), p l[j] = true) → l.all p = true := by
  intro h
  rw [List.all_eq_true]
  intro x hx
  obtain ⟨i, hi, rfl⟩ := List.mem_iff_getElem.1 hx
  exact h i hi
theorem all_not {α : Type} (l : List α) (p : α → Bool) (j : Nat) (h : j < l.length) (hp : p l[j] = false) : l.all p = false := by
  rw [List.all_eq_false]
  exact ⟨l[j], List.getElem_mem h, by simp [hp]⟩

set_option maxRecDepth 100000 in
set_option maxHeartbeats 400000 in
theorem value_isText (s : ByteArray) (hs : s.size ≤ 4294967296) (w : World) : Calls Tryz.prog 92 #[.string s] w (SameB w (textB s)) := by
  go_enter Tryz.func92, Tryz.ntmps92
  go_wp2
  go_loop [6] (fun i => ∃ k : Nat, k ≤ s.size ∧ i = .int .i64 k ∧ ∀ j (h : j < s.size), j < k → textC (s[j].toNat : Int) = true) (fun i => s.size - (intOf i).toNat)
  case atStart => exact ⟨0, Nat.zero_le _, rfl, by intros; omega⟩
  case round =>
    obtain ⟨k, hk, rfl, hall⟩ := hrel
    have HA := Lib.hid hall
    clear hall
    by_cases hlt : k < s.size
    · by_cases ht : 32 ≤ (s[k].toNat : Int) ∧ (s[k].toNat : Int) ≤ 126
      · obtain ⟨h1, h2⟩ := ht
        go_wp2
        go_round
        case rel =>
          refine ⟨k + 1, by omega, by go_num, fun j h hj => ?_⟩
          by_cases hjk : j = k
          · subst hjk
            simp [textC]
            omega
          · exact HA.out j h (by omega)
        case measure => simp [intOf]; omega
      · have hf : textB s = false := by
          unfold textB
          rw [all_not (bs s) textC k (by rw [bs_len]; exact hlt) (by rw [bs_at s k hlt]; simp only [textC, decide_eq_false_iff_not]; exact ht)]
          simp
        have HF := Lib.hid hf
        clear hf
        by_cases h1 : 32 ≤ (s[k].toNat : Int)
        all_goals
          go_wp2
          go_ret
          exact ⟨by rw [HF.out]; rfl, rfl⟩
    · have hf : textB s = decide (s.size ≤ 200) := by
        unfold textB
        rw [all_take (bs s) textC (fun j h => by rw [bs_len] at h; rw [bs_at s j h]; exact HA.out j h (by omega))]
        simp
      have HF := Lib.hid hf
      clear hf
      go_wp2
      go_ret
      exact ⟨by rw [HF.out]; simp; omega, rfl⟩

set_option maxRecDepth 100000 in
set_option maxHeartbeats 400000 in
theorem value_isName (s : ByteArray) (hs : s.size ≤ 4294967296) (w : World) : Calls Tryz.prog 126 #[.string s] w (SameB w (nameB s)) := by
  by_cases h0 : s.size = 0
  · have he : s = ⟨#[]⟩ := by
      cases s
      simp [ByteArray.size] at h0
      rw [h0]
    subst he
    go_enter Tryz.func126, Tryz.ntmps126
    go_wp2
    go_ret
    exact ⟨rfl, rfl⟩
  have e1 : s.toList = [] → False := fun h => h0 (by have h2 := congrArg List.length h; rw [ByteArray.toList_eq, Array.length_toList] at h2; exact h2)
  have e2 : (s.toList.isEmpty) = false := by simpa using e1
  by_cases h20 : 20 < s.size
  · have hf : nameB s = false := by unfold nameB; simp; omega
    have HF := Lib.hid hf
    have h20' : (20 : Int) < (s.size : Int) := by omega
    clear hf
    go_enter Tryz.func126, Tryz.ntmps126
    go_wp2
    go_ret
    exact ⟨by rw [HF.out]; rfl, rfl⟩
  · have hp : 0 < s.size := by omega
    cases hl : letterB (s[0].toNat : Int)
    · have hf : nameB s = false := by
        unfold nameB
        have : (bs s).head? = some (s[0].toNat : Int) := by rw [List.head?_eq_getElem?, List.getElem?_eq_getElem (by rw [bs_len]; exact hp), bs_at s 0 hp]
        rw [this]
        simp [hl]
      have HF := Lib.hid hf
      have HL := Lib.hid hl
      clear hf hl
      go_enter Tryz.func126, Tryz.ntmps126
      go_wp2_with (go_at_call 148; refine (value_letter _ _).mono ?_; rintro e w' ⟨rfl, rfl⟩; rw [HL.out])
      go_ret
      exact ⟨by rw [HF.out]; rfl, rfl⟩
    · have hhd : (bs s).head?.any letterB = true := by
        have : (bs s).head? = some (s[0].toNat : Int) := by rw [List.head?_eq_getElem?, List.getElem?_eq_getElem (by rw [bs_len]; exact hp), bs_at s 0 hp]
        rw [this]
        simp [hl]
      have HHD := Lib.hid hhd
      have HL := Lib.hid hl
      clear hhd hl
      have h20' : (s.size : Int) ≤ 20 := by omega
      go_enter Tryz.func126, Tryz.ntmps126
      go_wp2_with (go_at_call 148; refine (value_letter _ _).mono ?_; rintro e w' ⟨rfl, rfl⟩; rw [HL.out])
      go_loop [19] (fun i => ∃ k : Nat, k ≤ s.size ∧ i = .int .i64 k ∧ ∀ j (h : j < s.size), j < k → nameC (s[j].toNat : Int) = true) (fun i => s.size - (intOf i).toNat)
      case atStart => exact ⟨0, Nat.zero_le _, rfl, by intros; omega⟩
      case round =>
        obtain ⟨k, hk, rfl, hall⟩ := hrel
        have HA := Lib.hid hall
        clear hall
        by_cases hlt : k < s.size
        · cases hn : nameC (s[k].toNat : Int)
          · have hf : nameB s = false := by
              unfold nameB
              rw [all_not (bs s) nameC k (by rw [bs_len]; exact hlt) (by rw [bs_at s k hlt]; exact hn)]
              simp
            have HF := Lib.hid hf
            have hlk : letterB (s[k].toNat : Int) = false ∧ ¬ ((s[k].toNat : Int) = 95) ∧ ¬ (48 ≤ (s[k].toNat : Int) ∧ (s[k].toNat : Int) ≤ 57) := by
              have h9 := hn
              simp [nameC] at h9
              exact ⟨h9.1.1, h9.1.2, fun h => by omega⟩
            obtain ⟨hk1, hk2, hk3⟩ := hlk
            have HK1 := Lib.hid hk1
            have hk4 : ((s[k].toNat : Int) != 95) = true := by rw [bne_iff_ne]; exact hk2
            clear hf hn hk1
            by_cases hk5 : (s[k].toNat : Int) < 48
            all_goals
              go_wp2_with (go_at_call 148; refine (value_letter _ _).mono ?_; rintro e w' ⟨rfl, rfl⟩; rw [HK1.out])
              go_ret
              exact ⟨by rw [HF.out]; rfl, rfl⟩
          · have HN := Lib.hid hn
            have hnn : letterB (s[k].toNat : Int) = true ∨ letterB (s[k].toNat : Int) = false ∧ ((s[k].toNat : Int) = 95 ∨ ((s[k].toNat : Int) ≠ 95 ∧ 48 ≤ (s[k].toNat : Int) ∧ (s[k].toNat : Int) ≤ 57)) := by
              cases hq : letterB (s[k].toNat : Int)
              · right
                refine ⟨rfl, ?_⟩
                simp [nameC, hq] at hn
                omega
              · left; rfl
            clear hn
            rcases hnn with h1 | ⟨h1, h2 | ⟨h2, h3, h4⟩⟩
            · have HK1 := Lib.hid h1
              clear h1
              go_wp2_with (go_at_call 148; refine (value_letter _ _).mono ?_; rintro e w' ⟨rfl, rfl⟩; rw [HK1.out])
              go_round
              case rel =>
                refine ⟨k + 1, by omega, by go_num, fun j h hj => ?_⟩
                by_cases hjk : j = k
                · subst hjk; exact HN.out
                · exact HA.out j h (by omega)
              case measure => simp [intOf]; omega
            · have HK1 := Lib.hid h1
              have h5 : ((s[k].toNat : Int) != 95) = false := by simp [h2]
              clear h1 h2
              go_wp2_with (go_at_call 148; refine (value_letter _ _).mono ?_; rintro e w' ⟨rfl, rfl⟩; rw [HK1.out])
              go_round
              case rel =>
                refine ⟨k + 1, by omega, by go_num, fun j h hj => ?_⟩
                by_cases hjk : j = k
                · subst hjk; exact HN.out
                · exact HA.out j h (by omega)
              case measure => simp [intOf]; omega
            · have HK1 := Lib.hid h1
              have h5 : ((s[k].toNat : Int) != 95) = true := by rw [bne_iff_ne]; exact h2
              clear h1 h2
              go_wp2_with (go_at_call 148; refine (value_letter _ _).mono ?_; rintro e w' ⟨rfl, rfl⟩; rw [HK1.out])
              go_round
              case rel =>
                refine ⟨k + 1, by omega, by go_num, fun j h hj => ?_⟩
                by_cases hjk : j = k
                · subst hjk; exact HN.out
                · exact HA.out j h (by omega)
              case measure => simp [intOf]; omega
        · have hf : nameB s = true := by
            unfold nameB
            rw [HHD.out, all_take (bs s) nameC (fun j h => by rw [bs_len] at h; rw [bs_at s j h]; exact HA.out j h (by omega))]
            simp
            omega
          have HF := Lib.hid hf
          clear hf
          go_wp2
          go_ret
          exact ⟨by rw [HF.out]; rfl, rfl⟩
end Go.Proofs.YtcmmkeiiapbgcaaGreatDoor
