/- slices.Index and Contains of texts; which decimals and plain values are right. No conditions but that the arguments read as data. -/
import Derived.Test.YtcmmkeiiapbgcaaGreatDoorName
namespace Go.Proofs.YtcmmkeiiapbgcaaGreatDoor
open Go Go.RowKit

def SameI (w : World) (n : Int) (e : Ending) (w' : World) : Prop := e = .returned (.int .i64 n) ∧ w = w'
def RetI (w : World) (n : Int) (e : Ending) (w' : World) : Prop := e = .returned (.int .i64 n) ∧ Ext w w'
/-- The place of a text in a list; -1 if it is not there. -/
def idxS (l : List ByteArray) (v : ByteArray) : Int := match l.findIdx? (fun s => decide (s = v)) with | some i => (i : Int) | none => -1
theorem idxS_found {l : List ByteArray} {v : ByteArray} {k : Nat} (hk : k < l.length) (h : ∀ j (hj : j < l.length), j < k → l[j] ≠ v) (hv : l[k] = v) : idxS l v = k := by
  unfold idxS
  have : l.findIdx? (fun s => decide (s = v)) = some k := by
    rw [List.findIdx?_eq_some_iff_getElem]
    exact ⟨hk, by simp [hv], fun j hj => by simp [h j (by omega) hj]⟩
  rw [this]
theorem idxS_none {l : List ByteArray} {v : ByteArray} (h : ∀ j (hj : j < l.length), l[j] ≠ v) : idxS l v = -1 := by
  unfold idxS
  have : l.findIdx? (fun s => decide (s = v)) = none := by
    rw [List.findIdx?_eq_none_iff]
    intro x hx
    obtain ⟨i, hi, rfl⟩ := List.mem_iff_getElem.1 hx
    simp [h i hi]
  rw [this]
theorem idxS_mem (l : List ByteArray) (v : ByteArray) : (0 ≤ idxS l v ↔ v ∈ l) := by
  unfold idxS
  cases h : l.findIdx? (fun s => decide (s = v)) with
  | none =>
    rw [List.findIdx?_eq_none_iff] at h
    simp
    intro hv
    have := h v hv
    simp at this
  | some i =>
    rw [List.findIdx?_eq_some_iff_getElem] at h
    obtain ⟨hi, h1, _⟩ := h
    simp at h1
    simp
    rw [← h1]
    exact List.getElem_mem hi
theorem idxS_at {l : List ByteArray} {v : ByteArray} (h : 0 ≤ idxS l v) : ∃ k : Nat, idxS l v = k ∧ ∃ hk : k < l.length, l[k] = v ∧ ∀ j (hj : j < l.length), j < k → l[j] ≠ v := by
  unfold idxS at h ⊢
  cases hf : l.findIdx? (fun s => decide (s = v)) with
  | none => rw [hf] at h; simp at h
  | some i =>
    rw [List.findIdx?_eq_some_iff_getElem] at hf
    obtain ⟨hi, h1, h2⟩ := hf
    refine ⟨i, rfl, hi, by simpa using h1, fun j hj hji => ?_⟩
    have := h2 j hji
    simpa using this
def memS (l : List ByteArray) (v : ByteArray) : Bool := decide (0 ≤ idxS l v)
theorem memS_iff (l : List ByteArray) (v : ByteArray) : memS l v = true ↔ v ∈ l := by simp [memS, idxS_mem]
theorem bytes_nil (s : ByteArray) : s.toList = [] ↔ s = ⟨#[]⟩ := by
  rw [ByteArray.toList_eq]
  constructor
  · intro h
    cases s
    simp at h
    rw [h]
  · rintro rfl; rfl

set_option maxRecDepth 100000 in
set_option maxHeartbeats 400000 in
theorem slices_Index (A : Option Addr) (c : Nat) (l : List ByteArray) (v : ByteArray) (w : World) (S : Nat → Prop) (h : Strs w S A l) :
    Calls Tryz.prog 45 #[.slice A l.length c, .string v] w (SameI w (idxS l v)) := by
  have hn := h.2.1
  go_enter Tryz.func45, Tryz.ntmps45
  go_wp2
  go_loop [8] (fun i => ∃ k : Nat, k ≤ l.length ∧ i = .int .i64 k ∧ ∀ j (h : j < l.length), j < k → l[j] ≠ v) (fun i => l.length - (intOf i).toNat)
  case atStart => exact ⟨0, Nat.zero_le _, rfl, by intros; omega⟩
  case round =>
    obtain ⟨k, hk, rfl, hall⟩ := hrel
    have HA := Lib.hid hall
    clear hall
    by_cases hlt : k < l.length
    · obtain ⟨b1, o1, rfl, z1, c1⟩ := h.at_ hlt
      by_cases hv : l[k] = v
      · have ht : (v.toList == l[k].toList) = true := by rw [bytes_beq]; simp [hv]
        have HV := Lib.hid hv
        clear hv
        go_wp2
        go_ret
        exact ⟨by rw [idxS_found hlt (fun j hj h => HA.out j hj h) HV.out]; rfl, rfl⟩
      · have ht : (v.toList == l[k].toList) = false := by rw [bytes_beq]; simp [Ne.symm hv]
        have HV := Lib.hid hv
        clear hv
        go_wp2
        go_round
        case rel =>
          refine ⟨k + 1, by omega, by go_num, fun j h hj => ?_⟩
          by_cases hjk : j = k
          · subst hjk; exact HV.out
          · exact HA.out j h (by omega)
        case measure => simp [intOf]; omega
    · go_wp2
      go_ret
      exact ⟨by rw [idxS_none (fun j hj => HA.out j hj (by omega))]; rfl, rfl⟩

set_option maxRecDepth 100000 in
set_option maxHeartbeats 400000 in
theorem slices_Contains (A : Option Addr) (c : Nat) (l : List ByteArray) (v : ByteArray) (w : World) (S : Nat → Prop) (h : Strs w S A l) :
    Calls Tryz.prog 72 #[.slice A l.length c, .string v] w (SameB w (memS l v)) := by
  have H := Lib.hid h
  clear h
  go_enter Tryz.func72, Tryz.ntmps72
  go_wp2_with (go_at_call 45; refine (slices_Index _ _ _ _ _ S H.out).mono ?_; rintro e w' ⟨rfl, rfl⟩)
  go_ret
  exact ⟨rfl, rfl⟩

def unitsB (n : Int) : Bool := decide (-1000000000000000 ≤ n ∧ n ≤ 1000000000000000)
def decR (n s : Int) : Bool := decide (0 ≤ s ∧ s ≤ 6) && unitsB n && decide (s = 0 ∨ n.tmod 10 ≠ 0)
set_option maxRecDepth 100000 in
set_option maxHeartbeats 400000 in
theorem decimal_within (n : Int) (w : World) : Calls Tryz.prog 125 #[.int .i64 n] w (SameB w (unitsB n)) := by
  by_cases h1 : -1000000000000000 ≤ n
  · by_cases h2 : n ≤ 1000000000000000
    · have h : unitsB n = true := by simp [unitsB, h1, h2]
      have H := Lib.hid h
      clear h
      go_enter Tryz.func125, Tryz.ntmps125
      go_wp2
      go_ret
      exact ⟨by rw [H.out]; rfl, rfl⟩
    · have h : unitsB n = false := by simp [unitsB, h1, h2]
      have H := Lib.hid h
      clear h
      go_enter Tryz.func125, Tryz.ntmps125
      go_wp2
      go_ret
      exact ⟨by rw [H.out]; rfl, rfl⟩
  · have h : unitsB n = false := by simp [unitsB, h1]
    have H := Lib.hid h
    clear h
    go_enter Tryz.func125, Tryz.ntmps125
    go_wp2
    go_ret
    exact ⟨by rw [H.out]; rfl, rfl⟩

set_option maxRecDepth 100000 in
set_option maxHeartbeats 400000 in
theorem decimal_Right (n s : Int) (w : World) : Calls Tryz.prog 93 #[.agg #[.int .i64 n, .int .i64 s]] w (RetB w (decR n s)) := by
  cases hu : unitsB n
  all_goals
    have HU := Lib.hid hu
    clear hu
    go_enter Tryz.func93, Tryz.ntmps93
    go_wp2_with (go_at_call 125; refine (decimal_within _ _).mono ?_; rintro e w' ⟨rfl, rfl⟩; rw [HU.out])
    all_goals
      go_ret
      refine ⟨?_, (Ext.refl _).alloc _⟩
      simp only [decR, HU.out]
      simp
      first | done | omega | (rw [Bool.eq_iff_iff]; simp; omega)

def bareB (x : Val) : Bool := decide (x.s = ⟨#[]⟩ ∧ x.dn = 0 ∧ x.ds = 0 ∧ x.n = 0 ∧ x.cols = [] ∧ x.rows = [])
set_option maxRecDepth 100000 in
set_option maxHeartbeats 400000 in
theorem value_bare (x : Val) (A B : Option Addr) (c e : Nat) (w : World) : Calls Tryz.prog 91 #[(.agg #[.int .i64 x.kind, .string x.s, .int .i64 x.dn, .int .i64 x.ds, .int .i64 x.n, .slice A x.cols.length c, .slice B x.rows.length e])] w (RetB w (bareB x)) := by
  go_enter Tryz.func91, Tryz.ntmps91
  go_wp2
  all_goals
    go_ret
    refine ⟨?_, (Ext.refl _).alloc _⟩
    simp_all [bareB, ← bytes_nil]
    try (rw [Bool.eq_iff_iff]; simp [List.length_eq_zero_iff])

/-- A value that is no table, and is right. -/
def flatB (x : Val) : Bool :=
  if x.kind = 0 then decide (0 ≤ x.n ∧ x.n ≤ 99) && bareB { x with n := 0 }
  else if x.kind = 1 then textB x.s && bareB { x with s := ⟨#[]⟩ }
  else if x.kind = 2 then decR x.dn x.ds && bareB { x with dn := 0, ds := 0 }
  else if x.kind = 3 then decide (0 ≤ x.n ∧ x.n ≤ 3652058) && bareB { x with n := 0 }
  else if x.kind = 4 then decide (x.n = 0 ∨ x.n = 1) && bareB { x with n := 0 }
  else false

set_option maxRecDepth 100000 in
set_option maxHeartbeats 400000 in
theorem value_Right_0 (x : Val) (A B : Option Addr) (c e : Nat) (w : World) (hk : x.kind = 0) (hs : x.s.size ≤ 4294967296) : Calls Tryz.prog 52 #[(.agg #[.int .i64 x.kind, .string x.s, .int .i64 x.dn, .int .i64 x.ds, .int .i64 x.n, .slice A x.cols.length c, .slice B x.rows.length e])] w (RetB w (flatB x)) := by
  have hf : flatB x = (decide (0 ≤ x.n ∧ x.n ≤ 99) && bareB { x with n := 0 }) := by simp [flatB, hk]
  have HF := Lib.hid hf
  have k0 : (x.kind == 0) = true := by simp [hk]
  have k1 : (x.kind == 1) = false := by simp [hk]
  have k2 : (x.kind == 2) = false := by simp [hk]
  have k3 : (x.kind == 3) = false := by simp [hk]
  have k4 : (x.kind == 4) = false := by simp [hk]
  have k5 : (x.kind == 5) = false := by simp [hk]
  clear hf hk
  by_cases h1 : 0 ≤ x.n
  · by_cases h2 : x.n ≤ 99
    · go_enter Tryz.func52, Tryz.ntmps52
      go_wp2_with fail
      refine (value_bare { x with n := 0 } A B c e _).mono ?_
      rintro e1 w1 ⟨rfl, hx1⟩
      have HX := Lib.hid hx1
      clear hx1
      go_wp2
      go_ret
      exact ⟨by rw [HF.out]; simp [h1, h2], Ext.trans (((Ext.refl w).alloc _).alloc _) HX.out⟩
    · go_enter Tryz.func52, Tryz.ntmps52
      go_wp2
      go_ret
      exact ⟨by rw [HF.out, decide_eq_false (by omega), Bool.false_and]; rfl, ((Ext.refl w).alloc _).alloc _⟩
  · go_enter Tryz.func52, Tryz.ntmps52
    go_wp2
    go_ret
    exact ⟨by rw [HF.out, decide_eq_false (by omega), Bool.false_and]; rfl, ((Ext.refl w).alloc _).alloc _⟩

set_option maxRecDepth 100000 in
set_option maxHeartbeats 400000 in
theorem value_Right_1 (x : Val) (A B : Option Addr) (c e : Nat) (w : World) (hk : x.kind = 1) (hs : x.s.size ≤ 4294967296) : Calls Tryz.prog 52 #[(.agg #[.int .i64 x.kind, .string x.s, .int .i64 x.dn, .int .i64 x.ds, .int .i64 x.n, .slice A x.cols.length c, .slice B x.rows.length e])] w (RetB w (flatB x)) := by
  have hf : flatB x = (textB x.s && bareB { x with s := ⟨#[]⟩ }) := by simp [flatB, hk]
  have HF := Lib.hid hf
  have k0 : (x.kind == 0) = false := by simp [hk]
  have k1 : (x.kind == 1) = true := by simp [hk]
  have k2 : (x.kind == 2) = false := by simp [hk]
  have k3 : (x.kind == 3) = false := by simp [hk]
  have k4 : (x.kind == 4) = false := by simp [hk]
  have k5 : (x.kind == 5) = false := by simp [hk]
  clear hf hk
  cases ht : textB x.s
  · have HT := Lib.hid ht
    clear ht
    go_enter Tryz.func52, Tryz.ntmps52
    go_wp2_with (go_at_call 92; refine (value_isText _ hs _).mono ?_; rintro e w' ⟨rfl, rfl⟩; rw [HT.out])
    go_ret
    exact ⟨by rw [HF.out, HT.out]; rfl, ((Ext.refl w).alloc _).alloc _⟩
  · have HT := Lib.hid ht
    clear ht
    go_enter Tryz.func52, Tryz.ntmps52
    go_wp2_with (go_at_call 92; refine (value_isText _ hs _).mono ?_; rintro e w' ⟨rfl, rfl⟩; rw [HT.out])
    refine (value_bare { x with s := ⟨#[]⟩ } A B c e _).mono ?_
    rintro e1 w1 ⟨rfl, hx1⟩
    have HX := Lib.hid hx1
    clear hx1
    go_wp2
    go_ret
    exact ⟨by rw [HF.out, HT.out]; rfl, Ext.trans (((Ext.refl w).alloc _).alloc _) HX.out⟩

set_option maxRecDepth 100000 in
set_option maxHeartbeats 400000 in
theorem value_Right_2 (x : Val) (A B : Option Addr) (c e : Nat) (w : World) (hk : x.kind = 2) (hs : x.s.size ≤ 4294967296) : Calls Tryz.prog 52 #[(.agg #[.int .i64 x.kind, .string x.s, .int .i64 x.dn, .int .i64 x.ds, .int .i64 x.n, .slice A x.cols.length c, .slice B x.rows.length e])] w (RetB w (flatB x)) := by
  have hf : flatB x = (decR x.dn x.ds && bareB { x with dn := 0, ds := 0 }) := by simp [flatB, hk]
  have HF := Lib.hid hf
  have k0 : (x.kind == 0) = false := by simp [hk]
  have k1 : (x.kind == 1) = false := by simp [hk]
  have k2 : (x.kind == 2) = true := by simp [hk]
  have k3 : (x.kind == 3) = false := by simp [hk]
  have k4 : (x.kind == 4) = false := by simp [hk]
  have k5 : (x.kind == 5) = false := by simp [hk]
  clear hf hk
  go_enter Tryz.func52, Tryz.ntmps52
  go_wp2_with fail
  refine (decimal_Right x.dn x.ds _).mono ?_
  rintro e1 w1 ⟨rfl, hx1⟩
  obtain ⟨hc1, hf1⟩ := bcell hx1
  have hz1 := hx1.size
  simp at hc1 hf1 hz1
  have hz2 : w.heap.size < w1.heap.size := by omega
  have hz3 : w.heap.size + 1 < w1.heap.size := by omega
  have HX := Lib.hid hx1
  cases ht : decR x.dn x.ds
  · have HT := Lib.hid ht
    clear ht hx1
    go_wp2
    go_ret
    exact ⟨by rw [HF.out, HT.out]; rfl, Ext.trans ((((Ext.refl w).alloc _).alloc _)) HX.out⟩
  · have HT := Lib.hid ht
    clear ht hx1
    go_wp2_with fail
    refine (value_bare { x with dn := 0, ds := 0 } A B c e _).mono ?_
    rintro e1 w2 ⟨rfl, hx2⟩
    have HX2 := Lib.hid hx2
    clear hx2
    go_wp2
    go_ret
    exact ⟨by rw [HF.out, HT.out]; rfl, Ext.trans (((Ext.refl w).alloc _).alloc _) (Ext.trans HX.out HX2.out)⟩

set_option maxRecDepth 100000 in
set_option maxHeartbeats 400000 in
theorem value_Right_3 (x : Val) (A B : Option Addr) (c e : Nat) (w : World) (hk : x.kind = 3) (hs : x.s.size ≤ 4294967296) : Calls Tryz.prog 52 #[(.agg #[.int .i64 x.kind, .string x.s, .int .i64 x.dn, .int .i64 x.ds, .int .i64 x.n, .slice A x.cols.length c, .slice B x.rows.length e])] w (RetB w (flatB x)) := by
  have hf : flatB x = (decide (0 ≤ x.n ∧ x.n ≤ 3652058) && bareB { x with n := 0 }) := by simp [flatB, hk]
  have HF := Lib.hid hf
  have k0 : (x.kind == 0) = false := by simp [hk]
  have k1 : (x.kind == 1) = false := by simp [hk]
  have k2 : (x.kind == 2) = false := by simp [hk]
  have k3 : (x.kind == 3) = true := by simp [hk]
  have k4 : (x.kind == 4) = false := by simp [hk]
  have k5 : (x.kind == 5) = false := by simp [hk]
  clear hf hk
  by_cases h1 : 0 ≤ x.n
  · by_cases h2 : x.n ≤ 3652058
    · go_enter Tryz.func52, Tryz.ntmps52
      go_wp2_with fail
      refine (value_bare { x with n := 0 } A B c e _).mono ?_
      rintro e1 w1 ⟨rfl, hx1⟩
      have HX := Lib.hid hx1
      clear hx1
      go_wp2
      go_ret
      exact ⟨by rw [HF.out]; simp [h1, h2], Ext.trans (((Ext.refl w).alloc _).alloc _) HX.out⟩
    · go_enter Tryz.func52, Tryz.ntmps52
      go_wp2
      go_ret
      exact ⟨by rw [HF.out, decide_eq_false (by omega), Bool.false_and]; rfl, ((Ext.refl w).alloc _).alloc _⟩
  · go_enter Tryz.func52, Tryz.ntmps52
    go_wp2
    go_ret
    exact ⟨by rw [HF.out, decide_eq_false (by omega), Bool.false_and]; rfl, ((Ext.refl w).alloc _).alloc _⟩

set_option maxRecDepth 100000 in
set_option maxHeartbeats 400000 in
theorem value_Right_4 (x : Val) (A B : Option Addr) (c e : Nat) (w : World) (hk : x.kind = 4) (hs : x.s.size ≤ 4294967296) : Calls Tryz.prog 52 #[(.agg #[.int .i64 x.kind, .string x.s, .int .i64 x.dn, .int .i64 x.ds, .int .i64 x.n, .slice A x.cols.length c, .slice B x.rows.length e])] w (RetB w (flatB x)) := by
  have hf : flatB x = (decide (x.n = 0 ∨ x.n = 1) && bareB { x with n := 0 }) := by simp [flatB, hk]
  have HF := Lib.hid hf
  have k0 : (x.kind == 0) = false := by simp [hk]
  have k1 : (x.kind == 1) = false := by simp [hk]
  have k2 : (x.kind == 2) = false := by simp [hk]
  have k3 : (x.kind == 3) = false := by simp [hk]
  have k4 : (x.kind == 4) = true := by simp [hk]
  have k5 : (x.kind == 5) = false := by simp [hk]
  clear hf hk
  by_cases h1 : x.n = 0
  · have h3 : (x.n == 0) = true := by simp [h1]
    have H1 := Lib.hid h1
    clear h1
    go_enter Tryz.func52, Tryz.ntmps52
    go_wp2_with fail
    refine (value_bare { x with n := 0 } A B c e _).mono ?_
    rintro e1 w1 ⟨rfl, hx1⟩
    have HX := Lib.hid hx1
    clear hx1
    go_wp2
    go_ret
    exact ⟨by rw [HF.out]; simp [H1.out], Ext.trans (((Ext.refl w).alloc _).alloc _) HX.out⟩
  · have h3 : (x.n == 0) = false := by simp [h1]
    by_cases h2 : x.n = 1
    · have h4 : (x.n == 1) = true := by simp [h2]
      have H1 := Lib.hid h2
      clear h1 h2
      go_enter Tryz.func52, Tryz.ntmps52
      go_wp2_with fail
      refine (value_bare { x with n := 0 } A B c e _).mono ?_
      rintro e1 w1 ⟨rfl, hx1⟩
      have HX := Lib.hid hx1
      clear hx1
      go_wp2
      go_ret
      exact ⟨by rw [HF.out]; simp [H1.out], Ext.trans (((Ext.refl w).alloc _).alloc _) HX.out⟩
    · have h4 : (x.n == 1) = false := by simp [h2]
      go_enter Tryz.func52, Tryz.ntmps52
      go_wp2
      go_ret
      exact ⟨by rw [HF.out]; simp [h1, h2], ((Ext.refl w).alloc _).alloc _⟩

set_option maxRecDepth 100000 in
set_option maxHeartbeats 400000 in
theorem value_Right_x (x : Val) (A B : Option Addr) (c e : Nat) (w : World) (h0 : x.kind ≠ 0) (h1 : x.kind ≠ 1) (h2 : x.kind ≠ 2) (h3 : x.kind ≠ 3) (h4 : x.kind ≠ 4) (h5 : x.kind ≠ 5) : Calls Tryz.prog 52 #[(.agg #[.int .i64 x.kind, .string x.s, .int .i64 x.dn, .int .i64 x.ds, .int .i64 x.n, .slice A x.cols.length c, .slice B x.rows.length e])] w (RetB w (flatB x)) := by
  have hf : flatB x = false := by simp [flatB, h0, h1, h2, h3, h4]
  have HF := Lib.hid hf
  have k0 : (x.kind == 0) = false := by simp [h0]
  have k1 : (x.kind == 1) = false := by simp [h1]
  have k2 : (x.kind == 2) = false := by simp [h2]
  have k3 : (x.kind == 3) = false := by simp [h3]
  have k4 : (x.kind == 4) = false := by simp [h4]
  have k5 : (x.kind == 5) = false := by simp [h5]
  clear hf h0 h1 h2 h3 h4 h5
  go_enter Tryz.func52, Tryz.ntmps52
  go_wp2
  go_ret
  exact ⟨by rw [HF.out]; rfl, ((Ext.refl w).alloc _).alloc _⟩

theorem value_Right_flat (x : Val) (A B : Option Addr) (c e : Nat) (w : World) (h5 : x.kind ≠ 5) (hs : x.s.size ≤ 4294967296) : Calls Tryz.prog 52 #[(.agg #[.int .i64 x.kind, .string x.s, .int .i64 x.dn, .int .i64 x.ds, .int .i64 x.n, .slice A x.cols.length c, .slice B x.rows.length e])] w (RetB w (flatB x)) := by
  by_cases h0 : x.kind = 0
  · exact value_Right_0 x A B c e w h0 hs
  by_cases h1 : x.kind = 1
  · exact value_Right_1 x A B c e w h1 hs
  by_cases h2 : x.kind = 2
  · exact value_Right_2 x A B c e w h2 hs
  by_cases h3 : x.kind = 3
  · exact value_Right_3 x A B c e w h3 hs
  by_cases h4 : x.kind = 4
  · exact value_Right_4 x A B c e w h4 hs
  exact value_Right_x x A B c e w h0 h1 h2 h3 h4 h5
end Go.Proofs.YtcmmkeiiapbgcaaGreatDoor
