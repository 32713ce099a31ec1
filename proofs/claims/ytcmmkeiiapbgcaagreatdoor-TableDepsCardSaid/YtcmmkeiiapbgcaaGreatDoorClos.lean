/- Dependencies, and the program's table.Closure: the sorted list of the least set that contains the columns and is closed. Conditions: the arguments read as data. -/
import Derived.Test.YtcmmkeiiapbgcaaGreatDoorSorted
import Derived.Test.YtcmmkeiiapbgcaaGreatDoorGroups
import Derived.Deep.LoopGhost
namespace Go.Proofs.YtcmmkeiiapbgcaaGreatDoor
open Go Go.RowKit

/-- A dependency. -/
structure Dep where
  frm : List ByteArray
  to : ByteArray
/-- Dependencies in memory. -/
def RDeps (w : World) (S : Nat → Prop) (A : Option Addr) (l : List Dep) : Prop :=
  l.length ≤ 4294967296 ∧ ∃ xs : List Value, Rd w S A xs ∧ xs.length = l.length * 2 ∧ ∀ (i : Nat) (d : Dep), l[i]? = some d → ∃ (B : Option Addr) (c : Nat), xs[i * 2]? = some (.slice B d.frm.length c) ∧ xs[i * 2 + 1]? = some (.string d.to) ∧ d.frm.length ≤ c ∧ d.to.size ≤ 4294967296 ∧ Strs w S B d.frm
theorem RDeps.keep {w w' : World} {S : Nat → Prop} {A : Option Addr} {l : List Dep} (h : RDeps w S A l) (k : Kept S w w') : RDeps w' S A l := by
  obtain ⟨h0, xs, h1, h2, h3⟩ := h
  refine ⟨h0, xs, h1.keep k, h2, fun i d hd => ?_⟩
  obtain ⟨B, c, g1, g2, g3, g4, g5⟩ := h3 i d hd
  exact ⟨B, c, g1, g2, g3, g4, g5.keep k⟩
theorem RDeps.mono {w : World} {S T : Nat → Prop} {A : Option Addr} {l : List Dep} (h : RDeps w S A l) (k : ∀ i, i < w.heap.size → S i → T i) : RDeps w T A l := by
  obtain ⟨h0, xs, h1, h2, h3⟩ := h
  refine ⟨h0, xs, h1.mono k, h2, fun i d hd => ?_⟩
  obtain ⟨B, c, g1, g2, g3, g4, g5⟩ := h3 i d hd
  exact ⟨B, c, g1, g2, g3, g4, g5.mono k⟩
theorem RDeps.at_ {w : World} {S : Nat → Prop} {A : Option Addr} {l : List Dep} (h : RDeps w S A l) {k : Nat} (hk : k < l.length) :
    ∃ b o B c, A = some ⟨b, o, none⟩ ∧ b < w.heap.size ∧ w.cell? ⟨b, o + k * 2, none⟩ = some (.slice B l[k].frm.length c) ∧ w.cell? ⟨b, o + k * 2 + 1, none⟩ = some (.string l[k].to) ∧ l[k].frm.length ≤ c ∧ l[k].to.size ≤ 4294967296 ∧ Strs w S B l[k].frm := by
  obtain ⟨_, xs, h1, h2, h3⟩ := h
  obtain ⟨B, c, g1, g2, g3, g4, g5⟩ := h3 k l[k] (List.getElem?_eq_getElem hk)
  have hne : xs ≠ [] := by rintro rfl; simp at g1
  obtain ⟨b, o, hA, _, hb, hc⟩ := h1.some_ hne
  exact ⟨b, o, B, c, hA, hb, hc _ _ g1, by have := hc _ _ g2; rwa [← Nat.add_assoc] at this, g3, g4, g5⟩

/-- ks is the least set that contains frm and is closed under the dependencies. -/
structure IsClosure (l : List Dep) (frm ks : List ByteArray) : Prop where
  nodup : ks.Nodup
  base : ∀ x ∈ frm, x ∈ ks
  closed : ∀ d ∈ l, (∀ x ∈ d.frm, x ∈ ks) → d.to ∈ ks
  least : ∀ T : ByteArray → Prop, (∀ x ∈ frm, T x) → (∀ d ∈ l, (∀ x ∈ d.frm, T x) → T d.to) → ∀ x ∈ ks, T x
/-- The set that block b is. -/
def SetIs (w : World) (b : Nat) (ks : List ByteArray) : Prop := MapIs w b (fun s : ByteArray => Value.string s) (ks.map fun k => (k, Value.bool true))
theorem fnd_set (ks : List ByteArray) (x : ByteArray) (j : Nat) : (x ∈ ks → ∃ i, fnd x (ks.map fun k => (k, Value.bool true)) j = some (i, .bool true) ∧ j ≤ i ∧ ks[i - j]? = some x) ∧ (x ∉ ks → fnd x (ks.map fun k => (k, Value.bool true)) j = none) := by
  induction ks generalizing j with
  | nil => simp [fnd]
  | cons k ks ih =>
    by_cases hk : k = x
    · subst hk
      refine ⟨fun _ => ⟨j, ?_, Nat.le_refl _, by simp⟩, fun h => absurd (List.mem_cons_self) h⟩
      simp [fnd]
    · have h := ih (j + 1)
      refine ⟨fun hx => ?_, fun hx => ?_⟩
      · have hx' : x ∈ ks := by
          rcases List.mem_cons.1 hx with e | e
          · exact absurd e.symm hk
          · exact e
        obtain ⟨i, h1, h2, h3⟩ := h.1 hx'
        refine ⟨i, ?_, by omega, ?_⟩
        · simp only [List.map_cons, fnd, if_neg hk]; exact h1
        · rw [show i - j = (i - (j + 1)) + 1 by omega, List.getElem?_cons_succ]; exact h3
      · have hx' : x ∉ ks := fun e => hx (List.mem_cons_of_mem _ e)
        simp only [List.map_cons, fnd, if_neg hk]
        exact h.2 hx'
theorem mget_set (ks : List ByteArray) (x : ByteArray) : (x ∈ ks → mget (ks.map fun k => (k, Value.bool true)) x = some (.bool true)) ∧ (x ∉ ks → mget (ks.map fun k => (k, Value.bool true)) x = none) := by
  refine ⟨fun h => ?_, fun h => ?_⟩
  · obtain ⟨i, h1, _⟩ := (fnd_set ks x 0).1 h
    simp [mget, h1]
  · simp [mget, (fnd_set ks x 0).2 h]
theorem mput_set (ks : List ByteArray) (x : ByteArray) : (x ∈ ks → mput (ks.map fun k => (k, Value.bool true)) x (.bool true) = ks.map fun k => (k, Value.bool true)) ∧ (x ∉ ks → mput (ks.map fun k => (k, Value.bool true)) x (.bool true) = (ks ++ [x]).map fun k => (k, Value.bool true)) := by
  refine ⟨fun h => ?_, fun h => ?_⟩
  · obtain ⟨i, h1, h2, h3⟩ := (fnd_set ks x 0).1 h
    rw [Nat.sub_zero] at h3
    unfold mput
    rw [h1]
    show (ks.map fun k => (k, Value.bool true)).set i (x, Value.bool true) = _
    rw [show (x, Value.bool true) = (fun k => (k, Value.bool true)) x from rfl, ← List.map_set]
    congr 1
    obtain ⟨hi, hx⟩ := List.getElem?_eq_some_iff.1 h3
    rw [← hx, List.set_getElem_self]
  · unfold mput
    rw [(fnd_set ks x 0).2 h]
    simp
theorem SetIs.put {w : World} {b : Nat} {ks : List ByteArray} (h : SetIs w b ks) (x : ByteArray) :
    ∃ w' ks', (Instr.mapUpdate 90 (.map (some b)) (.string x) (.bool true)).run Tryz.prog w = .ok () w' ∧ SetIs w' b ks' ∧ w.grownBy w' (some b) ∧ ((x ∈ ks ∧ ks' = ks) ∨ (x ∉ ks ∧ ks' = ks ++ [x])) := by
  obtain ⟨w', h1, h2, h3⟩ := MapIs.put h Tryz.underlying90 (klStr Tryz.underlying9) x (.bool true)
  by_cases hx : x ∈ ks
  · rw [(mput_set ks x).1 hx] at h2
    exact ⟨w', ks, h1, h2, h3, .inl ⟨hx, rfl⟩⟩
  · rw [(mput_set ks x).2 hx] at h2
    exact ⟨w', ks ++ [x], h1, h2, h3, .inr ⟨hx, rfl⟩⟩
theorem zeroB (w : World) : (zeroValue 4).run Tryz.prog w = .ok (.bool false) w := by kernel_rfl
noncomputable def memB (ks : List ByteArray) (x : ByteArray) : Bool := @decide (x ∈ ks) (Classical.propDecidable _)
theorem memB_iff (ks : List ByteArray) (x : ByteArray) : memB ks x = true ↔ x ∈ ks := by simp [memB]
theorem SetIs.get {w : World} {b : Nat} {ks : List ByteArray} (h : SetIs w b ks) (x : ByteArray) : (Instr.lookup 90 (.map (some b)) (.string x) false).run Tryz.prog w = .ok (.bool (memB ks x)) w := by
  rw [MapIs.get h Tryz.underlying90 (klStr Tryz.underlying9) (.bool false) zeroB x]
  by_cases hx : x ∈ ks
  · rw [(mget_set ks x).1 hx, (memB_iff ks x).2 hx]; rfl
  · have : memB ks x = false := by rw [Bool.eq_false_iff]; exact fun e => hx ((memB_iff ks x).1 e)
    rw [(mget_set ks x).2 hx, this]; rfl
theorem SetIs.len {w : World} {b : Nat} {ks : List ByteArray} (h : SetIs w b ks) (ty : TypeId) : (Builtin.len_ #[90] ty #[.map (some b)]).run Tryz.prog w = .ok (.int .i64 (ks.length : Int)) w := by
  have := MapIs.len h (P := Tryz.prog) Tryz.underlying90 ty
  simpa using this
theorem SetIs.keep {w w' : World} {b : Nat} {ks : List ByteArray} (h : SetIs w b ks) (hk : Kept (fun i => i = b) w w') : SetIs w' b ks := MapIs.keep h hk

set_option maxRecDepth 100000 in
set_option maxHeartbeats 400000 in
theorem table_Closure1 (x : ByteArray) (g b : Nat) (ks : List ByteArray) (w : World) (hb : w.cell? ⟨g, 0, none⟩ = some (.map (some b))) (h : SetIs w b ks) :
    Calls Tryz.prog 67 #[.string x, .pointer (some ⟨g, 0, none⟩)] w (SameB w (!memB ks x)) := by
  have hg := h.get x
  clear h
  go_enter Tryz.func67, Tryz.ntmps67
  go_wp2
  go_ret
  exact ⟨rfl, rfl⟩

set_option maxRecDepth 100000 in
set_option maxHeartbeats 400000 in
theorem slices_IndexFuncS (l : List ByteArray) (A : Option Addr) (c g b : Nat) (ks : List ByteArray) (w : World) (S : Nat → Prop) (hl : Strs w S A l) (hb : w.cell? ⟨g, 0, none⟩ = some (.map (some b))) (h : SetIs w b ks) :
    Calls Tryz.prog 107 #[.slice A l.length c, .func (.func 67) #[] #[.pointer (some ⟨g, 0, none⟩)]] w (SameI w (idxF (fun x => !memB ks x) l)) := by
  have hn := hl.2.1
  have HB := Lib.hid hb
  have HS := Lib.hid h
  clear hb h
  go_enter Tryz.func107, Tryz.ntmps107
  go_wp2
  go_loop [8] (fun i => ∃ k : Nat, k ≤ l.length ∧ i = .int .i64 k ∧ ∀ j (h : j < l.length), j < k → (fun x => !memB ks x) l[j] = false) (fun i => l.length - (intOf i).toNat)
  case atStart => exact ⟨0, Nat.zero_le _, rfl, by intros; omega⟩
  case round =>
    obtain ⟨k, hk, rfl, hall⟩ := hrel
    have HA := Lib.hid hall
    clear hall
    by_cases hlt : k < l.length
    · obtain ⟨b1, o1, rfl, z1, c1⟩ := hl.at_ hlt
      cases hm : memB ks l[k]
      · have HM := Lib.hid hm
        clear hm
        go_wp2_with (go_at_call 67; refine (table_Closure1 _ g b ks _ HB.out HS.out).mono ?_; rintro e w' ⟨rfl, rfl⟩; rw [HM.out])
        go_ret
        exact ⟨by rw [idxF_found hlt HA.out (by simp [HM.out])]; rfl, rfl⟩
      · have HM := Lib.hid hm
        clear hm
        go_wp2_with (go_at_call 67; refine (table_Closure1 _ g b ks _ HB.out HS.out).mono ?_; rintro e w' ⟨rfl, rfl⟩; rw [HM.out])
        go_round
        case rel =>
          refine ⟨k + 1, by omega, by go_num, fun j h hj => ?_⟩
          by_cases hjk : j = k
          · subst hjk; simp [HM.out]
          · exact HA.out j h (by omega)
        case measure => simp [intOf]; omega
    · go_wp2
      go_ret
      exact ⟨by rw [idxF_none (fun j hj => HA.out j hj (by omega))]; rfl, rfl⟩
set_option maxRecDepth 100000 in
set_option maxHeartbeats 400000 in
theorem slices_ContainsFuncS (l : List ByteArray) (A : Option Addr) (c g b : Nat) (ks : List ByteArray) (w : World) (S : Nat → Prop) (hl : Strs w S A l) (hb : w.cell? ⟨g, 0, none⟩ = some (.map (some b))) (h : SetIs w b ks) :
    Calls Tryz.prog 68 #[.slice A l.length c, .func (.func 67) #[] #[.pointer (some ⟨g, 0, none⟩)]] w (SameB w (l.any fun x => !memB ks x)) := by
  have HB := Lib.hid hb
  have HS := Lib.hid h
  have HL := Lib.hid hl
  clear hb h hl
  go_enter Tryz.func68, Tryz.ntmps68
  go_wp2_with (go_at_call 107; refine (slices_IndexFuncS _ _ _ g b ks _ S HL.out HB.out HS.out).mono ?_; rintro e w' ⟨rfl, rfl⟩)
  go_ret
  exact ⟨by rw [← idxF_any]; rfl, rfl⟩
end Go.Proofs.YtcmmkeiiapbgcaaGreatDoor
