/- Dependencies, and the program's table.Closure: the sorted list of the least set that contains the columns and is closed. Conditions: the arguments read as data. -/
import Derived.Test.YtcmmkeiiapbgcaaGreatDoorBm3
import Derived.Deep.LoopGhost
namespace Go.Proofs.YtcmmkeiiapbgcaaGreatDoor
open Go Go.RowKit

/-- A dependency. -/
structure Dep where
  frm : List ByteArray
  to : ByteArray
/-- Dependencies in memory. -/
def RDeps (w : World) (S : Nat → Prop) (A : Option Addr) (l : List Dep) : Prop :=
  l.length ≤ 4294967296 ∧ ∃ xs : List Value, Rd w S A xs ∧ xs.length = l.length * 2 ∧ ∀ (i : Nat) (d : Dep), l[i]? = some d → ∃ (B : Option Addr) (c : Nat), xs[i * 2]? = some (.slice B d.frm.length c) ∧ xs[i * 2 + 1]? = some (.string d.to) ∧ d.frm.length ≤ c ∧ d.to.size ≤ 4294967296 ∧ Strs w S B d.frm
theorem RDeps.keep {w w' : World} {S : Nat → Prop} {A : Option Addr} {l : List Dep} (h : RDeps w S A l) (k : Kept S w w') : RDeps w' S A l := by
  obtain ⟨h0, xs, h1, h2, h3⟩ := h
  refine ⟨h0, xs, h1.keep k, h2, fun i d hd => ?_⟩
  obtain ⟨B, c, g1, g2, g3, g4, g5⟩ := h3 i d hd
  exact ⟨B, c, g1, g2, g3, g4, g5.keep k⟩
theorem RDeps.mono {w : World} {S T : Nat → Prop} {A : Option Addr} {l : List Dep} (h : RDeps w S A l) (k : ∀ i, i < w.heap.size → S i → T i) : RDeps w T A l := by
  obtain ⟨h0, xs, h1, h2, h3⟩ := h
  refine ⟨h0, xs, h1.mono k, h2, fun i d hd => ?_⟩
  obtain ⟨B, c, g1, g2, g3, g4, g5⟩ := h3 i d hd
  exact ⟨B, c, g1, g2, g3, g4, g5.mono k⟩
theorem RDeps.at_ {w : World} {S : Nat → Prop} {A : Option Addr} {l : List Dep} (h : RDeps w S A l) {k : Nat} (hk : k < l.length) :
    ∃ b o B c, A = some ⟨b, o, none⟩ ∧ b < w.heap.size ∧ w.cell? ⟨b, o + k * 2, none⟩ = some (.slice B l[k].frm.length c) ∧ w.cell? ⟨b, o + k * 2 + 1, none⟩ = some (.string l[k].to) ∧ l[k].frm.length ≤ c ∧ l[k].to.size ≤ 4294967296 ∧ Strs w S B l[k].frm := by
  obtain ⟨_, xs, h1, h2, h3⟩ := h
  obtain ⟨B, c, g1, g2, g3, g4, g5⟩ := h3 k l[k] (List.getElem?_eq_getElem hk)
  have hne : xs ≠ [] := by rintro rfl; simp at g1
  obtain ⟨b, o, hA, _, hb, hc⟩ := h1.some_ hne
  exact ⟨b, o, B, c, hA, hb, hc _ _ g1, by have := hc _ _ g2; rwa [← Nat.add_assoc] at this, g3, g4, g5⟩

/-- ks is the least set that contains frm and is closed under the dependencies. -/
structure IsClosure (l : List Dep) (frm ks : List ByteArray) : Prop where
  nodup : ks.Nodup
  base : ∀ x ∈ frm, x ∈ ks
  closed : ∀ d ∈ l, (∀ x ∈ d.frm, x ∈ ks) → d.to ∈ ks
  least : ∀ T : ByteArray → Prop, (∀ x ∈ frm, T x) → (∀ d ∈ l, (∀ x ∈ d.frm, T x) → T d.to) → ∀ x ∈ ks, T x
/-- The set that block b is. -/
def SetIs (w : World) (b : Nat) (ks : List ByteArray) : Prop := MapIs w b (fun s : ByteArray => Value.string s) (ks.map fun k => (k, Value.bool true))
theorem fnd_set (ks : List ByteArray) (x : ByteArray) (j : Nat) : (x ∈ ks → ∃ i, fnd x (ks.map fun k => (k, Value.bool true)) j = some (i, .bool true) ∧ j ≤ i ∧ ks[i - j]? = some x) ∧ (x ∉ ks → fnd x (ks.map fun k => (k, Value.bool true)) j = none) := by
  induction ks generalizing j with
  | nil => simp [fnd]
  | cons k ks ih =>
    by_cases hk : k = x
    · subst hk
      refine ⟨fun _ => ⟨j, ?_, Nat.le_refl _, by simp⟩, fun h => absurd (List.mem_cons_self) h⟩
      simp [fnd]
    · have h := ih (j + 1)
      refine ⟨fun hx => ?_, fun hx => ?_⟩
      · have hx' : x ∈ ks := by
          rcases List.mem_cons.1 hx with e | e
          · exact absurd e.symm hk
          · exact e
        obtain ⟨i, h1, h2, h3⟩ := h.1 hx'
        refine ⟨i, ?_, by omega, ?_⟩
        · simp only [List.map_cons, fnd, if_neg hk]; exact h1
        · rw [show i - j = (i - (j + 1)) + 1 by omega, List.getElem?_cons_succ]; exact h3
      · have hx' : x ∉ ks := fun e => hx (List.mem_cons_of_mem _ e)
        simp only [List.map_cons, fnd, if_neg hk]
        exact h.2 hx'
theorem mget_set (ks : List ByteArray) (x : ByteArray) : (x ∈ ks → mget (ks.map fun k => (k, Value.bool true)) x = some (.bool true)) ∧ (x ∉ ks → mget (ks.map fun k => (k, Value.bool true)) x = none) := by
  refine ⟨fun h => ?_, fun h => ?_⟩
  · obtain ⟨i, h1, _⟩ := (fnd_set ks x 0).1 h
    simp [mget, h1]
  · simp [mget, (fnd_set ks x 0).2 h]
theorem mput_set (ks : List ByteArray) (x : ByteArray) : (x ∈ ks → mput (ks.map fun k => (k, Value.bool true)) x (.bool true) = ks.map fun k => (k, Value.bool true)) ∧ (x ∉ ks → mput (ks.map fun k => (k, Value.bool true)) x (.bool true) = (ks ++ [x]).map fun k => (k, Value.bool true)) := by
  refine ⟨fun h => ?_, fun h => ?_⟩
  · obtain ⟨i, h1, h2, h3⟩ := (fnd_set ks x 0).1 h
    rw [Nat.sub_zero] at h3
    unfold mput
    rw [h1]
    show (ks.map fun k => (k, Value.bool true)).set i (x, Value.bool true) = _
    rw [show (x, Value.bool true) = (fun k => (k, Value.bool true)) x from rfl, ← List.map_set]
    congr 1
    obtain ⟨hi, hx⟩ := List.getElem?_eq_some_iff.1 h3
    rw [← hx, List.set_getElem_self]
  · unfold mput
    rw [(fnd_set ks x 0).2 h]
    simp
theorem SetIs.put {w : World} {b : Nat} {ks : List ByteArray} (h : SetIs w b ks) (x : ByteArray) :
    ∃ w' ks', (Instr.mapUpdate 90 (.map (some b)) (.string x) (.bool true)).run Tryz.prog w = .ok () w' ∧ SetIs w' b ks' ∧ w.grownBy w' (some b) ∧ ((x ∈ ks ∧ ks' = ks) ∨ (x ∉ ks ∧ ks' = ks ++ [x])) := by
  obtain ⟨w', h1, h2, h3⟩ := MapIs.put h Tryz.underlying90 (klStr Tryz.underlying9) x (.bool true)
  by_cases hx : x ∈ ks
  · rw [(mput_set ks x).1 hx] at h2
    exact ⟨w', ks, h1, h2, h3, .inl ⟨hx, rfl⟩⟩
  · rw [(mput_set ks x).2 hx] at h2
    exact ⟨w', ks ++ [x], h1, h2, h3, .inr ⟨hx, rfl⟩⟩
theorem zeroB (w : World) : (zeroValue 4).run Tryz.prog w = .ok (.bool false) w := by kernel_rfl
noncomputable def memB (ks : List ByteArray) (x : ByteArray) : Bool := @decide (x ∈ ks) (Classical.propDecidable _)
theorem memB_iff (ks : List ByteArray) (x : ByteArray) : memB ks x = true ↔ x ∈ ks := by simp [memB]
theorem SetIs.get {w : World} {b : Nat} {ks : List ByteArray} (h : SetIs w b ks) (x : ByteArray) : (Instr.lookup 90 (.map (some b)) (.string x) false).run Tryz.prog w = .ok (.bool (memB ks x)) w := by
  rw [MapIs.get h Tryz.underlying90 (klStr Tryz.underlying9) (.bool false) zeroB x]
  by_cases hx : x ∈ ks
  · rw [(mget_set ks x).1 hx, (memB_iff ks x).2 hx]; rfl
  · have : memB ks x = false := by rw [Bool.eq_false_iff]; exact fun e => hx ((memB_iff ks x).1 e)
    rw [(mget_set ks x).2 hx, this]; rfl
theorem SetIs.len {w : World} {b : Nat} {ks : List ByteArray} (h : SetIs w b ks) (ty : TypeId) : (Builtin.len_ #[90] ty #[.map (some b)]).run Tryz.prog w = .ok (.int .i64 (ks.length : Int)) w := by
  have := MapIs.len h (P := Tryz.prog) Tryz.underlying90 ty
  simpa using this
theorem SetIs.keep {w w' : World} {b : Nat} {ks : List ByteArray} (h : SetIs w b ks) (hk : Kept (fun i => i = b) w w') : SetIs w' b ks := MapIs.keep h hk

set_option maxRecDepth 100000 in
set_option maxHeartbeats 400000 in
theorem table_Closure1 (x : ByteArray) (g b : Nat) (ks : List ByteArray) (w : World) (hb : w.cell? ⟨g, 0, none⟩ = some (.map (some b))) (h : SetIs w b ks) :
    Calls Tryz.prog 67 #[.string x, .pointer (some ⟨g, 0, none⟩)] w (SameB w (!memB ks x)) := by
  have hg := h.get x
  clear h
  go_enter Tryz.func67, Tryz.ntmps67
  go_wp2
  go_ret
  exact ⟨rfl, rfl⟩

set_option maxRecDepth 100000 in
set_option maxHeartbeats 400000 in
theorem slices_IndexFuncS (l : List ByteArray) (A : Option Addr) (c g b : Nat) (ks : List ByteArray) (w : World) (S : Nat → Prop) (hl : Strs w S A l) (hb : w.cell? ⟨g, 0, none⟩ = some (.map (some b))) (h : SetIs w b ks) :
    Calls Tryz.prog 107 #[.slice A l.length c, .func (.func 67) #[] #[.pointer (some ⟨g, 0, none⟩)]] w (SameI w (idxF (fun x => !memB ks x) l)) := by
  have hn := hl.2.1
  have HB := Lib.hid hb
  have HS := Lib.hid h
  clear hb h
  go_enter Tryz.func107, Tryz.ntmps107
  go_wp2
  go_loop [8] (fun i => ∃ k : Nat, k ≤ l.length ∧ i = .int .i64 k ∧ ∀ j (h : j < l.length), j < k → (fun x => !memB ks x) l[j] = false) (fun i => l.length - (intOf i).toNat)
  case atStart => exact ⟨0, Nat.zero_le _, rfl, by intros; omega⟩
  case round =>
    obtain ⟨k, hk, rfl, hall⟩ := hrel
    have HA := Lib.hid hall
    clear hall
    by_cases hlt : k < l.length
    · obtain ⟨b1, o1, rfl, z1, c1⟩ := hl.at_ hlt
      cases hm : memB ks l[k]
      · have HM := Lib.hid hm
        clear hm
        go_wp2_with (go_at_call 67; refine (table_Closure1 _ g b ks _ HB.out HS.out).mono ?_; rintro e w' ⟨rfl, rfl⟩; rw [HM.out])
        go_ret
        exact ⟨by rw [idxF_found hlt HA.out (by simp [HM.out])]; rfl, rfl⟩
      · have HM := Lib.hid hm
        clear hm
        go_wp2_with (go_at_call 67; refine (table_Closure1 _ g b ks _ HB.out HS.out).mono ?_; rintro e w' ⟨rfl, rfl⟩; rw [HM.out])
        go_round
        case rel =>
          refine ⟨k + 1, by omega, by go_num, fun j h hj => ?_⟩
          by_cases hjk : j = k
          · subst hjk; simp [HM.out]
          · exact HA.out j h (by omega)
        case measure => simp [intOf]; omega
    · go_wp2
      go_ret
      exact ⟨by rw [idxF_none (fun j hj => HA.out j hj (by omega))]; rfl, rfl⟩
set_option maxRecDepth 100000 in
set_option maxHeartbeats 400000 in
theorem slices_ContainsFuncS (l : List ByteArray) (A : Option Addr) (c g b : Nat) (ks : List ByteArray) (w : World) (S : Nat → Prop) (hl : Strs w S A l) (hb : w.cell? ⟨g, 0, none⟩ = some (.map (some b))) (h : SetIs w b ks) :
    Calls Tryz.prog 68 #[.slice A l.length c, .func (.func 67) #[] #[.pointer (some ⟨g, 0, none⟩)]] w (SameB w (l.any fun x => !memB ks x)) := by
  have HB := Lib.hid hb
  have HS := Lib.hid h
  have HL := Lib.hid hl
  clear hb h hl
  go_enter Tryz.func68, Tryz.ntmps68
  go_wp2_with (go_at_call 107; refine (slices_IndexFuncS _ _ _ g b ks _ S HL.out HB.out HS.out).mono ?_; rintro e w' ⟨rfl, rfl⟩)
  go_ret
  exact ⟨by rw [← idxF_any]; rfl, rfl⟩
end Go.Proofs.YtcmmkeiiapbgcaaGreatDoor
/- Helpers of the program's table.Keys: different, sets, contains, isKey, names. Conditions: the arguments read as data, indexes are in range. -/
namespace Go.Proofs.YtcmmkeiiapbgcaaGreatDoor
open Go Go.RowKit

set_option maxRecDepth 100000 in
set_option maxHeartbeats 400000 in
theorem table_different (l : List ByteArray) (A : Option Addr) (ca : Nat) (w : World) (S : Nat → Prop) (hA : Strs w S A l) :
    Calls Tryz.prog 80 #[.slice A l.length ca] w (RetB w (decide l.Nodup)) := by
  have hal := hA.2.1
  have HA := Lib.hid hA
  clear hA
  have hmm := @run_makeMap Tryz.prog
  go_enter Tryz.func80, Tryz.ntmps80
  go_wp2
  clear hmm
  have HSET := Lib.hid (show SetIs (w.alloc (.map #[] 0)) w.heap.size [] from MapIs.made w _)
  go_loopw [9] (fun i wr => ∃ (k : Nat) (ks : List ByteArray), k ≤ l.length ∧ i = .int .i64 k ∧ Ext w wr ∧ SetIs wr w.heap.size ks ∧ ks.length ≤ k ∧ (ks.length = k ↔ (l.take k).Nodup) ∧ (∀ x, x ∈ ks ↔ x ∈ l.take k)) (fun i _ => l.length - (intOf i).toNat)
  case atStart => exact ⟨0, [], Nat.zero_le _, rfl, (Ext.refl w).alloc _, HSET.out, Nat.le_refl _, by simp, by simp⟩
  case round =>
    clear HSET
    obtain ⟨k, ks, hk, rfl, hext, hset, h1, h2, h3⟩ := hrel
    have HE := Lib.hid hext
    have HS := Lib.hid hset
    have H2 := Lib.hid h2
    have H3 := Lib.hid h3
    clear h2 h3
    by_cases hlt : k < l.length
    · obtain ⟨b1, o1, rfl, z1, c1⟩ := (HA.out.keep (hext.kept S)).at_ hlt
      obtain ⟨w', ks', hup, hset', hg', hks⟩ := hset.put l[k]
      have HS' := Lib.hid hset'
      have HG' := Lib.hid hg'
      have HKS := Lib.hid hks
      clear hset' hg' hks hext hset
      go_wp2
      go_roundw
      case rel =>
        have htk : l.take (k + 1) = l.take k ++ [l[k]] := List.take_succ_eq_append_getElem hlt
        have hnd : (l.take (k + 1)).Nodup ↔ (l.take k).Nodup ∧ l[k] ∉ l.take k := by
          rw [htk, List.nodup_append]
          constructor
          · rintro ⟨h1, _, h3⟩
            exact ⟨h1, fun h => h3 _ h _ (by simp) rfl⟩
          · rintro ⟨h1, h2⟩
            exact ⟨h1, by simp, fun a ha b hb e => by simp at hb; subst hb; subst e; exact h2 ha⟩
        refine ⟨k + 1, ks', by omega, by go_num, HE.out.grown HG'.out (fun b hb => by injection hb with hb; omega), HS'.out, ?_, ?_, fun x => ?_⟩
        · rcases HKS.out with ⟨_, rfl⟩ | ⟨_, rfl⟩
          · omega
          · simp; omega
        · rw [hnd, ← H2.out, ← H3.out]
          rcases HKS.out with ⟨hm, rfl⟩ | ⟨hn, rfl⟩
          · constructor
            · intro h; omega
            · rintro ⟨_, h⟩; exact absurd hm h
          · simp only [List.length_append, List.length_singleton]
            constructor
            · intro h; exact ⟨by omega, hn⟩
            · rintro ⟨h, _⟩; omega
        · rw [htk, List.mem_append, ← H3.out]
          rcases HKS.out with ⟨hm, rfl⟩ | ⟨hn, rfl⟩
          · constructor
            · intro h; exact Or.inl h
            · rintro (h | h)
              · exact h
              · simp at h; subst h; exact hm
          · rw [List.mem_append]
      case measure => simp [intOf]; omega
    · obtain rfl : k = l.length := by omega
      have hlen := hset.len 3
      have hnd := H2.out
      rw [List.take_of_length_le (Nat.le_refl _)] at hnd
      have HND := Lib.hid hnd
      clear hnd hext hset
      go_wp2
      go_ret
      refine ⟨?_, HE.out⟩
      by_cases hd : l.Nodup
      · rw [decide_eq_true hd]
        have := HND.out.2 hd
        simp [this]
      · rw [decide_eq_false hd]
        have : ¬ ks.length = l.length := fun e => hd (HND.out.1 e)
        simp
        omega

/-- The place of an int in a list; -1, if it is not there. -/
def idxI (l : List Int) (v : Int) : Int := idxF (fun x => decide (v = x)) l
set_option maxRecDepth 100000 in
set_option maxHeartbeats 400000 in
theorem slices_IndexI (A : Option Addr) (c : Nat) (l : List Int) (v : Int) (w : World) (S : Nat → Prop) (h : Ints w S A l) :
    Calls Tryz.prog 118 #[.slice A l.length c, .int .i64 v] w (SameI w (idxI l v)) := by
  have hn := h.2
  go_enter Tryz.func118, Tryz.ntmps118
  go_wp2
  go_loop [8] (fun i => ∃ k : Nat, k ≤ l.length ∧ i = .int .i64 k ∧ ∀ j (h : j < l.length), j < k → (fun x => decide (v = x)) l[j] = false) (fun i => l.length - (intOf i).toNat)
  case atStart => exact ⟨0, Nat.zero_le _, rfl, by intros; omega⟩
  case round =>
    obtain ⟨k, hk, rfl, hall⟩ := hrel
    have HA := Lib.hid hall
    clear hall
    by_cases hlt : k < l.length
    · obtain ⟨b1, o1, rfl, z1, c1⟩ := h.at_ hlt
      by_cases hv : v = l[k]
      · have ht : (v == l[k]) = true := by simp [hv]
        have HV := Lib.hid (show decide (v = l[k]) = true by simp [hv])
        clear hv
        go_wp2
        go_ret
        exact ⟨by unfold idxI; rw [idxF_found hlt HA.out HV.out]; rfl, rfl⟩
      · have ht : (v == l[k]) = false := by simp [hv]
        have HV := Lib.hid (show decide (v = l[k]) = false by simp [hv])
        clear hv
        go_wp2
        go_round
        case rel =>
          refine ⟨k + 1, by omega, by go_num, fun j h hj => ?_⟩
          by_cases hjk : j = k
          · subst hjk; exact HV.out
          · exact HA.out j h (by omega)
        case measure => simp [intOf]; omega
    · go_wp2
      go_ret
      exact ⟨by unfold idxI; rw [idxF_none (fun j hj => HA.out j hj (by omega))]; rfl, rfl⟩
def memI (l : List Int) (v : Int) : Bool := l.any fun x => decide (v = x)
set_option maxRecDepth 100000 in
set_option maxHeartbeats 400000 in
theorem slices_ContainsI (A : Option Addr) (c : Nat) (l : List Int) (v : Int) (w : World) (S : Nat → Prop) (h : Ints w S A l) :
    Calls Tryz.prog 86 #[.slice A l.length c, .int .i64 v] w (SameB w (memI l v)) := by
  have H := Lib.hid h
  clear h
  go_enter Tryz.func86, Tryz.ntmps86
  go_wp2_with (go_at_call 118; refine (slices_IndexI _ _ _ _ _ S H.out).mono ?_; rintro e w' ⟨rfl, rfl⟩)
  go_ret
  exact ⟨by unfold memI; rw [← idxF_any]; rfl, rfl⟩
set_option maxRecDepth 100000 in
set_option maxHeartbeats 400000 in
theorem table_contains1 (x : Int) (g : Nat) (A : Option Addr) (c : Nat) (l : List Int) (w : World) (S : Nat → Prop) (hb : w.cell? ⟨g, 0, none⟩ = some (.slice A l.length c)) (h : Ints w S A l) :
    Calls Tryz.prog 116 #[.int .i64 x, .pointer (some ⟨g, 0, none⟩)] w (SameB w (!memI l x)) := by
  have H := Lib.hid h
  clear h
  go_enter Tryz.func116, Tryz.ntmps116
  go_wp2_with (go_at_call 86; refine (slices_ContainsI _ _ _ _ _ S H.out).mono ?_; rintro e w' ⟨rfl, rfl⟩)
  go_ret
  exact ⟨rfl, rfl⟩

set_option maxRecDepth 100000 in
set_option maxHeartbeats 400000 in
theorem slices_IndexFuncI (l m : List Int) (A B : Option Addr) (c cb g : Nat) (w : World) (S T : Nat → Prop) (hl : Ints w S A l) (hb : w.cell? ⟨g, 0, none⟩ = some (.slice B m.length cb)) (h : Ints w T B m) :
    Calls Tryz.prog 144 #[.slice A l.length c, .func (.func 116) #[] #[.pointer (some ⟨g, 0, none⟩)]] w (SameI w (idxF (fun x => !memI m x) l)) := by
  have hn := hl.2
  have HB := Lib.hid hb
  have HS := Lib.hid h
  clear hb h
  go_enter Tryz.func144, Tryz.ntmps144
  go_wp2
  go_loop [8] (fun i => ∃ k : Nat, k ≤ l.length ∧ i = .int .i64 k ∧ ∀ j (h : j < l.length), j < k → (fun x => !memI m x) l[j] = false) (fun i => l.length - (intOf i).toNat)
  case atStart => exact ⟨0, Nat.zero_le _, rfl, by intros; omega⟩
  case round =>
    obtain ⟨k, hk, rfl, hall⟩ := hrel
    have HA := Lib.hid hall
    clear hall
    by_cases hlt : k < l.length
    · obtain ⟨b1, o1, rfl, z1, c1⟩ := hl.at_ hlt
      cases hm : memI m l[k]
      · have HM := Lib.hid hm
        clear hm
        go_wp2_with (go_at_call 116; refine (table_contains1 _ g B cb m _ T HB.out HS.out).mono ?_; rintro e w' ⟨rfl, rfl⟩; rw [HM.out])
        go_ret
        exact ⟨by rw [idxF_found hlt HA.out (by simp [HM.out])]; rfl, rfl⟩
      · have HM := Lib.hid hm
        clear hm
        go_wp2_with (go_at_call 116; refine (table_contains1 _ g B cb m _ T HB.out HS.out).mono ?_; rintro e w' ⟨rfl, rfl⟩; rw [HM.out])
        go_round
        case rel =>
          refine ⟨k + 1, by omega, by go_num, fun j h hj => ?_⟩
          by_cases hjk : j = k
          · subst hjk; simp [HM.out]
          · exact HA.out j h (by omega)
        case measure => simp [intOf]; omega
    · go_wp2
      go_ret
      exact ⟨by rw [idxF_none (fun j hj => HA.out j hj (by omega))]; rfl, rfl⟩
set_option maxRecDepth 100000 in
set_option maxHeartbeats 400000 in
theorem slices_ContainsFuncI (l m : List Int) (A B : Option Addr) (c cb g : Nat) (w : World) (S T : Nat → Prop) (hl : Ints w S A l) (hb : w.cell? ⟨g, 0, none⟩ = some (.slice B m.length cb)) (h : Ints w T B m) :
    Calls Tryz.prog 115 #[.slice A l.length c, .func (.func 116) #[] #[.pointer (some ⟨g, 0, none⟩)]] w (SameB w (l.any fun x => !memI m x)) := by
  have HB := Lib.hid hb
  have HS := Lib.hid h
  have HL := Lib.hid hl
  clear hb h hl
  go_enter Tryz.func115, Tryz.ntmps115
  go_wp2_with (go_at_call 144; refine (slices_IndexFuncI _ m _ B _ cb g _ S T HL.out HB.out HS.out).mono ?_; rintro e w' ⟨rfl, rfl⟩)
  go_ret
  exact ⟨by rw [← idxF_any]; rfl, rfl⟩
def subI (l m : List Int) : Bool := !(l.any fun x => !memI m x)
set_option maxRecDepth 100000 in
set_option maxHeartbeats 400000 in
theorem table_contains (l m : List Int) (A B : Option Addr) (c cb : Nat) (w : World) (S T : Nat → Prop) (hl : Ints w S A l) (h : Ints w T B m) :
    Calls Tryz.prog 84 #[.slice A l.length c, .slice B m.length cb] w (RetB w (subI l m)) := by
  have HS := Lib.hid h
  have HL := Lib.hid hl
  clear h hl
  go_enter Tryz.func84, Tryz.ntmps84
  go_wp2_with fail
  refine (slices_ContainsFuncI l m A B c cb w.heap.size _ S T (HL.out.keep (Kept.alloc _ _ _)) ((Blk.new w 22 #[.slice B m.length cb]).cell rfl) (HS.out.keep (Kept.alloc _ _ _))).mono ?_
  rintro e w' ⟨rfl, rfl⟩
  go_wp2
  go_ret
  exact ⟨rfl, (Ext.refl w).alloc _⟩
set_option maxRecDepth 100000 in
set_option maxHeartbeats 400000 in
theorem table_Keys1 (l m : List Int) (A B : Option Addr) (c cb g : Nat) (w : World) (S T : Nat → Prop) (hl : Ints w S A l) (hb : w.cell? ⟨g, 0, none⟩ = some (.slice B m.length cb)) (h : Ints w T B m) :
    Calls Tryz.prog 83 #[.slice A l.length c, .pointer (some ⟨g, 0, none⟩)] w (RetB w (subI l m)) := by
  have HS := Lib.hid h
  have HL := Lib.hid hl
  clear h hl
  go_enter Tryz.func83, Tryz.ntmps83
  go_wp2_with fail
  refine (table_contains l m A B c cb _ S T HL.out HS.out).mono ?_
  rintro e w' ⟨rfl, hx⟩
  have HX := Lib.hid hx
  clear hx
  go_wp2
  go_ret
  exact ⟨rfl, HX.out⟩
set_option maxRecDepth 100000 in
set_option maxHeartbeats 400000 in
theorem table_isKey1 (gs l : List Int) (A B : Option Addr) (c cb g : Nat) (w : World) (S T : Nat → Prop) (hl : Ints w S A l) (hb : w.cell? ⟨g, 0, none⟩ = some (.slice B gs.length cb)) (h : Ints w T B gs) (hll : l.length = gs.length) :
    Calls Tryz.prog 117 #[.slice A l.length c, .pointer (some ⟨g, 0, none⟩)] w (RetB w (!consB gs l)) := by
  have HS := Lib.hid h
  have HL := Lib.hid hl
  have HLL := Lib.hid hll
  clear h hl hll
  go_enter Tryz.func117, Tryz.ntmps117
  go_wp2_with fail
  refine (table_decides gs l B A cb c _ T S HS.out HL.out HLL.out).mono ?_
  rintro e w' ⟨rfl, hx⟩
  have HX := Lib.hid hx
  clear hx
  go_wp2
  go_ret
  exact ⟨rfl, HX.out⟩
end Go.Proofs.YtcmmkeiiapbgcaaGreatDoor
/- Helpers of the program's table.Keys: ContainsFunc over lists of ints, isKey, names, sets. Conditions: the arguments read as data, indexes are in range. -/
namespace Go.Proofs.YtcmmkeiiapbgcaaGreatDoor
open Go Go.RowKit

set_option maxRecDepth 100000 in
set_option maxHeartbeats 400000 in
theorem slices_IndexFuncK (ls : List (List Int)) (m : List Int) (A B : Option Addr) (c cb g : Nat) (w : World) (S T : Nat → Prop) (hl : RIss w S A ls) (hb : w.cell? ⟨g, 0, none⟩ = some (.slice B m.length cb)) (h : Ints w T B m) :
    Calls Tryz.prog 114 #[.slice A ls.length c, .func (.func 83) #[] #[.pointer (some ⟨g, 0, none⟩)]] w (RetI w (idxF (fun l => subI l m) ls)) := by
  have hn := hl.1
  have HB := Lib.hid hb
  have HS := Lib.hid h
  have HLS := Lib.hid hl
  clear hb h hl
  go_enter Tryz.func114, Tryz.ntmps114
  go_wp2
  go_loopw [8] (fun i wr => ∃ k : Nat, k ≤ ls.length ∧ i = .int .i64 k ∧ Ext w wr ∧ ∀ j (h : j < ls.length), j < k → (fun l => subI l m) ls[j] = false) (fun i _ => ls.length - (intOf i).toNat)
  case atStart => exact ⟨0, Nat.zero_le _, rfl, Ext.refl _, by intros; omega⟩
  case round =>
    obtain ⟨k, hk, rfl, hext, hall⟩ := hrel
    have HA := Lib.hid hall
    have HE := Lib.hid hext
    clear hall
    by_cases hlt : k < ls.length
    · obtain ⟨b1, o1, B2, c2, rfl, z1, p0, hcp, hint⟩ := (HLS.out.keep (hext.kept S)).at_ hlt
      have HINT := Lib.hid hint
      clear hint hext
      go_wp2_with fail
      refine (table_Keys1 ls[k] m B2 B c2 cb g _ S T HINT.out (HE.out.cell HB.out) (HS.out.keep (HE.out.kept T))).mono ?_
      rintro e w1 ⟨rfl, hx1⟩
      have HX1 := Lib.hid (HE.out.trans hx1)
      clear hx1
      cases hq : (subI ls[k] m)
      · have HQ := Lib.hid hq
        clear hq
        go_wp2
        go_roundw
        case rel =>
          refine ⟨k + 1, by omega, by go_num, HX1.out, fun j h hj => ?_⟩
          by_cases hjk : j = k
          · subst hjk; exact HQ.out
          · exact HA.out j h (by omega)
        case measure => simp [intOf]; omega
      · have HF := Lib.hid (idxF_found (p := fun l => subI l m) hlt HA.out hq)
        clear hq
        go_wp2
        go_ret
        exact ⟨by rw [HF.out]; rfl, HX1.out⟩
    · have HF := Lib.hid (idxF_none (p := fun l => subI l m) (l := ls) (fun j h => HA.out j h (by omega)))
      clear hext
      go_wp2
      go_ret
      exact ⟨by rw [HF.out]; rfl, HE.out⟩
set_option maxRecDepth 100000 in
set_option maxHeartbeats 400000 in
theorem slices_ContainsFuncK (ls : List (List Int)) (m : List Int) (A B : Option Addr) (c cb g : Nat) (w : World) (S T : Nat → Prop) (hl : RIss w S A ls) (hb : w.cell? ⟨g, 0, none⟩ = some (.slice B m.length cb)) (h : Ints w T B m) :
    Calls Tryz.prog 82 #[.slice A ls.length c, .func (.func 83) #[] #[.pointer (some ⟨g, 0, none⟩)]] w (RetB w (ls.any fun l => subI l m)) := by
  have HB := Lib.hid hb
  have HS := Lib.hid h
  have HLS := Lib.hid hl
  clear hb h hl
  go_enter Tryz.func82, Tryz.ntmps82
  go_wp2_with fail
  refine (slices_IndexFuncK ls m A B c cb g _ S T HLS.out HB.out HS.out).mono ?_
  rintro e w1 ⟨rfl, hx1⟩
  have HX1 := Lib.hid hx1
  clear hx1
  go_wp2
  go_ret
  exact ⟨by rw [← idxF_any]; rfl, HX1.out⟩

set_option maxRecDepth 100000 in
set_option maxHeartbeats 400000 in
theorem slices_IndexFuncD (ls : List (List Int)) (m : List Int) (A B : Option Addr) (c cb g : Nat) (w : World) (S T : Nat → Prop) (hl : RIss w S A ls) (hb : w.cell? ⟨g, 0, none⟩ = some (.slice B m.length cb)) (h : Ints w T B m) (hll : ∀ l ∈ ls, l.length = m.length) :
    Calls Tryz.prog 114 #[.slice A ls.length c, .func (.func 117) #[] #[.pointer (some ⟨g, 0, none⟩)]] w (RetI w (idxF (fun l => !consB m l) ls)) := by
  have hn := hl.1
  have HB := Lib.hid hb
  have HS := Lib.hid h
  have HLS := Lib.hid hl
  have HLL := Lib.hid hll
  clear hll
  clear hb h hl
  go_enter Tryz.func114, Tryz.ntmps114
  go_wp2
  go_loopw [8] (fun i wr => ∃ k : Nat, k ≤ ls.length ∧ i = .int .i64 k ∧ Ext w wr ∧ ∀ j (h : j < ls.length), j < k → (fun l => !consB m l) ls[j] = false) (fun i _ => ls.length - (intOf i).toNat)
  case atStart => exact ⟨0, Nat.zero_le _, rfl, Ext.refl _, by intros; omega⟩
  case round =>
    obtain ⟨k, hk, rfl, hext, hall⟩ := hrel
    have HA := Lib.hid hall
    have HE := Lib.hid hext
    clear hall
    by_cases hlt : k < ls.length
    · obtain ⟨b1, o1, B2, c2, rfl, z1, p0, hcp, hint⟩ := (HLS.out.keep (hext.kept S)).at_ hlt
      have HINT := Lib.hid hint
      clear hint hext
      go_wp2_with fail
      refine (table_isKey1 m ls[k] B2 B c2 cb g _ S T HINT.out (HE.out.cell HB.out) (HS.out.keep (HE.out.kept T)) (HLL.out _ (List.getElem_mem hlt))).mono ?_
      rintro e w1 ⟨rfl, hx1⟩
      have HX1 := Lib.hid (HE.out.trans hx1)
      clear hx1
      cases hq : (!consB m ls[k])
      · have HQ := Lib.hid hq
        clear hq
        go_wp2
        go_roundw
        case rel =>
          refine ⟨k + 1, by omega, by go_num, HX1.out, fun j h hj => ?_⟩
          by_cases hjk : j = k
          · subst hjk; exact HQ.out
          · exact HA.out j h (by omega)
        case measure => simp [intOf]; omega
      · have HF := Lib.hid (idxF_found (p := fun l => !consB m l) hlt HA.out hq)
        clear hq
        go_wp2
        go_ret
        exact ⟨by rw [HF.out]; rfl, HX1.out⟩
    · have HF := Lib.hid (idxF_none (p := fun l => !consB m l) (l := ls) (fun j h => HA.out j h (by omega)))
      clear hext
      go_wp2
      go_ret
      exact ⟨by rw [HF.out]; rfl, HE.out⟩
set_option maxRecDepth 100000 in
set_option maxHeartbeats 400000 in
theorem slices_ContainsFuncD (ls : List (List Int)) (m : List Int) (A B : Option Addr) (c cb g : Nat) (w : World) (S T : Nat → Prop) (hl : RIss w S A ls) (hb : w.cell? ⟨g, 0, none⟩ = some (.slice B m.length cb)) (h : Ints w T B m) (hll : ∀ l ∈ ls, l.length = m.length) :
    Calls Tryz.prog 82 #[.slice A ls.length c, .func (.func 117) #[] #[.pointer (some ⟨g, 0, none⟩)]] w (RetB w (ls.any fun l => !consB m l)) := by
  have HB := Lib.hid hb
  have HS := Lib.hid h
  have HLS := Lib.hid hl
  have HLL := Lib.hid hll
  clear hll
  clear hb h hl
  go_enter Tryz.func82, Tryz.ntmps82
  go_wp2_with fail
  refine (slices_IndexFuncD ls m A B c cb g _ S T HLS.out HB.out HS.out HLL.out).mono ?_
  rintro e w1 ⟨rfl, hx1⟩
  have HX1 := Lib.hid hx1
  clear hx1
  go_wp2
  go_ret
  exact ⟨by rw [← idxF_any]; rfl, HX1.out⟩

def namesS (cols : List ByteArray) (set : List Int) : List ByteArray := set.map fun c => cols.getD c.toNat ⟨#[]⟩
set_option maxRecDepth 100000 in
set_option maxHeartbeats 400000 in
theorem table_names (cols : List ByteArray) (set : List Int) (A B : Option Addr) (ca cb : Nat) (w : World) (S T : Nat → Prop) (hA : Strs w S A cols) (hB : Ints w T B set) (hr : ∀ c ∈ set, 0 ≤ c ∧ c < (cols.length : Int)) :
    Calls Tryz.prog 87 #[.slice A cols.length ca, .slice B set.length cb] w (RetSs w (namesS cols set)) := by
  have hal := hA.2.1
  have hbl := hB.2
  have HA := Lib.hid hA
  have HB := Lib.hid hB
  have HR := Lib.hid hr
  clear hA hB hr
  obtain ⟨cur, hmk, hcur⟩ := run_mk0 tiS set.length (by omega) (by decide)
  have HCUR := Lib.hid hcur
  clear hcur
  have hnl : (namesS cols set).length = set.length := by simp [namesS]
  have HNL := Lib.hid hnl
  have hns : ∀ s ∈ namesS cols set, s.size ≤ 4294967296 := by
    intro s hs
    obtain ⟨c, hc, rfl⟩ := List.mem_map.1 hs
    have := HR.out c hc
    rw [getD_of _ _ _ (by omega)]
    exact HA.out.sz (by omega)
  have HNS := Lib.hid hns
  clear hnl hns
  go_enter Tryz.func87, Tryz.ntmps87
  go_wp2
  clear hmk
  have hst : OwnSs (w.alloc (.cells cur 9)) w.heap.size (some ⟨w.heap.size, 0, none⟩) set.length ((namesS cols set).take 0) := by
    have := Own.made w 9 1 set.length cur (by unfold maxLen; omega) HCUR.out
    exact ⟨by simpa using this, by simp⟩
  have HST := Lib.hid hst
  clear hst
  go_loopw [13, 5] (fun i v wr => ∃ (m : Nat) (A' : Option Addr) (c' : Nat), m ≤ set.length ∧ i = .int .i64 m ∧ v = .slice A' m c' ∧ Ext w wr ∧ OwnSs wr w.heap.size A' c' ((namesS cols set).take m)) (fun i _ _ => set.length - (intOf i).toNat)
  case atStart => exact ⟨0, _, _, Nat.zero_le _, rfl, rfl, (Ext.refl w).alloc _, HST.out⟩
  case round =>
    clear HST
    obtain ⟨m, A', c', hm, rfl, rfl, hext, hown⟩ := hrel
    have HE := Lib.hid hext
    have HO := Lib.hid hown
    clear hown
    by_cases hlt : m < set.length
    · obtain ⟨b1, o1, rfl, z1, c1⟩ := (HB.out.keep (hext.kept T)).at_ hlt
      have hrm := HR.out _ (List.getElem_mem hlt)
      obtain ⟨x, hx⟩ := Int.eq_ofNat_of_zero_le hrm.1
      have hx2 : x < cols.length := by omega
      rw [hx] at c1
      obtain ⟨b2, o2, rfl, z2, d1⟩ := (HA.out.keep (hext.kept S)).at_ hx2
      have hval : (namesS cols set)[m]'(by rw [HNL.out]; exact hlt) = cols[x] := by
        simp only [namesS, List.getElem_map, hx]
        rw [Int.toNat_natCast, getD_of _ _ _ hx2]
      have HVAL := Lib.hid hval
      have hlm : ((namesS cols set).take m).length = m := by rw [List.length_take, HNL.out]; omega
      have hown := (HO.out.ext ((Ext.refl wr).alloc (.cells #[.string cols[x]] 9))).1
      rw [hlm] at hown
      have HOWN := Lib.hid hown
      have hszw := HE.out.size
      clear hval hlm hown hext hrm hx
      go_wp2_with (at_builtin; go_must (refine wpList_app rfl (.tmp 17) (.tmp 22) rfl tiS rfl HOWN.out rfl (Blk.rd (Blk.new _ _ _)) rfl (by simp [Value.oneCell']) (by omega) (by decide) (by simp; omega) ?_); intro A4 c4 w4 hown4 hg4 hat4)
      go_roundw
      case rel =>
        refine ⟨m + 1, A4, c4, by omega, by go_num, rfl, Ext.grown (HE.out.alloc _) hg4 (fun b hb => (HOWN.out.blk hb).1), ?_, fun s hs => HNS.out s (List.mem_of_mem_take hs)⟩
        rw [List.take_succ_eq_append_getElem (by rw [HNL.out]; exact hlt), HVAL.out, List.length_append, List.length_take, HNL.out, Nat.min_eq_left hm, List.map_append]
        exact hown4
      case measure => simp [intOf]; omega
    · obtain rfl : m = set.length := by omega
      have ho := HO.out
      rw [List.take_of_length_le (by rw [HNL.out]; exact Nat.le_refl _)] at ho
      have HO2 := Lib.hid ho
      clear ho hext
      go_wp2
      go_ret
      exact ⟨A', c', by rw [HNL.out]; rfl, Own.cap HO2.out.1, HO2.out.strs (by rw [HNL.out]; exact hbl) (fun b hb => (Own.blk HO2.out.1 hb).1), HE.out⟩
end Go.Proofs.YtcmmkeiiapbgcaaGreatDoor
/- Helpers of the program's table.Keys: isKey and sets. Conditions: the arguments read as data, indexes are in range. -/
namespace Go.Proofs.YtcmmkeiiapbgcaaGreatDoor
open Go Go.RowKit

theorem Own.of_blk {w : World} {g e n sz base : Nat} {cs : Array Value} (h : Blk w g e cs) (hs : cs.size = n * sz) (hn : n ≤ maxLen) (hb : base ≤ g) : Own w base e sz (some ⟨g, 0, none⟩) n n cs.toList := by
  refine ⟨by simpa using hs, Or.inr ⟨g, n, cs, rfl, hb, h, Nat.le_refl _, hn, hs, ?_⟩⟩
  rw [List.take_of_length_le (by simp [hs])]
def keyB (rows : List (List Val)) (nc : Nat) (fs : List Nat) : Bool := (List.range nc).all fun c => holdRows rows fs c
def listsS (rows : List (List Val)) (nc : Nat) : List (List Int) := (List.range nc).map fun c => classesS rows c

set_option maxRecDepth 100000 in
set_option maxHeartbeats 1000000 in
theorem table_isKey (rows : List (List Val)) (nc : Nat) (set : List Int) (A B : Option Addr) (ca cb : Nat) (w : World) (S T : Nat → Prop) (hA : Ints w S A set) (hB : RIss w T B (listsS rows nc)) (hr : ∀ c ∈ set, 0 ≤ c ∧ c < (nc : Int)) (hrl : rows.length ≤ 4294967296) :
    Calls Tryz.prog 85 #[.slice A set.length ca, .slice B nc cb, .int .i64 (rows.length : Int)] w (RetB w (keyB rows nc (set.map Int.toNat))) := by
  have hal := hA.2
  have hbl := hB.1
  have hlsl : (listsS rows nc).length = nc := by simp [listsS]
  rw [hlsl] at hbl
  have HLSL := Lib.hid hlsl
  have HA := Lib.hid hA
  have HB := Lib.hid hB
  have HR := Lib.hid hr
  clear hA hB hr hlsl
  go_enter Tryz.func85, Tryz.ntmps85
  go_wp2
  go_loopw [13, 7] (fun i v wr => ∃ (k : Nat) (A' : Option Addr) (c' : Nat), k ≤ set.length ∧ i = .int .i64 k ∧ v = .slice A' k c' ∧ Ext w wr ∧ OwnIss wr w.heap.size (fun b => b < w.heap.size) A' c' (((set.map Int.toNat).map fun f => classesS rows f).take k)) (fun i _ _ => set.length - (intOf i).toNat)
  case atStart => exact ⟨0, none, 0, Nat.zero_le _, rfl, rfl, Ext.refl _, OwnIss.nil _ _ _⟩
  case round =>
    obtain ⟨k, A', c', hk, rfl, rfl, hext, hown⟩ := hrel
    have HE := Lib.hid hext
    have HO := Lib.hid hown
    have hml : ((set.map Int.toNat).map fun f => classesS rows f).length = set.length := by simp
    have HML := Lib.hid hml
    clear hown hml
    by_cases hlt : k < set.length
    · obtain ⟨b1, o1, rfl, z1, c1⟩ := (HA.out.keep (hext.kept S)).at_ hlt
      have hrm := HR.out _ (List.getElem_mem hlt)
      obtain ⟨x, hx⟩ := Int.eq_ofNat_of_zero_le hrm.1
      have hx2 : x < nc := by omega
      rw [hx] at c1
      obtain ⟨b2, o2, B2, c2, rfl, z2', d1', hcp, hint⟩ := HB.out.at_ (show x < (listsS rows nc).length by rw [HLSL.out]; exact hx2)
      have d1 := hext.cell d1'
      have z2 : b2 < wr.heap.size := by have := hext.size; omega
      have hlx : (listsS rows nc)[x]'(by rw [HLSL.out]; exact hx2) = classesS rows x := by simp [listsS]
      rw [hlx] at d1 hcp hint
      have HINT := Lib.hid (hint.mono (T := fun b => b < w.heap.size) (fun i hi _ => hi))
      have hval : ((set.map Int.toNat).map fun f => classesS rows f)[k]'(by rw [HML.out]; exact hlt) = classesS rows x := by simp [hx]
      have HVAL := Lib.hid hval
      have hlk : (((set.map Int.toNat).map fun f => classesS rows f).take k).length = k := by rw [List.length_take, HML.out]; omega
      obtain ⟨hs, ho, hv⟩ := HO.out.ext ((Ext.refl wr).alloc (.cells #[.slice B2 (classesS rows x).length c2] 22))
      have hhs : hs.length = k := by have := ho.len; rw [hlk] at this; omega
      rw [hlk] at ho
      have HOWN := Lib.hid ho
      have HV := Lib.hid hv
      have HHS := Lib.hid hhs
      have HLK := Lib.hid hlk
      have hszw := HE.out.size
      clear ho hv hhs hlk hval hext hint d1' hlx hrm hx z2'
      go_wp2_with (at_builtin; go_must (refine wpList_app rfl (.tmp 17) (.tmp 22) rfl tiIs rfl HOWN.out rfl (Blk.rd (Blk.new _ _ _)) rfl (by simp [Value.oneCell']) (by omega) (by decide) (by simp; omega) ?_); intro A4 c4 w4 hown4 hg4 hat4)
      go_roundw
      case rel =>
        refine ⟨k + 1, A4, c4, by omega, by go_num, rfl, Ext.grown (HE.out.alloc _) hg4 (fun b hb => (HOWN.out.blk hb).1), ?_⟩
        rw [List.take_succ_eq_append_getElem (by rw [HML.out]; exact hlt), HVAL.out]
        refine OwnIss.push (by rw [HLK.out]; exact HHS.out) HV.out (by rw [HLK.out]; exact hown4) hg4 hat4 hcp ((HINT.out.keep (((HE.out.alloc _)).kept _)).mono fun i _ hi => ⟨fun h0 => ?_, hi⟩)
        have := (HO.out.blk h0).1
        omega
      case measure => simp [intOf]; omega
    · obtain rfl : k = set.length := by omega
      have hoo := HO.out
      rw [List.take_of_length_le (by rw [HML.out]; exact Nat.le_refl _)] at hoo
      have HRS := Lib.hid (hoo.riss (T := fun _ => True) (by rw [HML.out]; exact hal) (fun _ _ => trivial) (fun _ _ => trivial))
      clear hoo hext
      have hgl := table_groups rows.length ((set.map Int.toNat).map fun f => classesS rows f) A' c' wr (fun _ => True) HRS.out (fun l hl => by obtain ⟨f, _, rfl⟩ := List.mem_map.1 hl; simp [classesS]) hrl
      rw [HML.out] at hgl
      have HGL := Lib.hid hgl
      clear hgl
      go_wp2_with fail
      refine HGL.out.mono ?_
      rintro e w1 ⟨gs, hgo, A1, c1, rfl, hcp1, hi1, hx1⟩
      have HX1 := Lib.hid hx1
      have HGO := Lib.hid hgo
      have HI1 := Lib.hid hi1
      have hgsl := hgo.len
      have HGSL := Lib.hid hgsl
      clear hx1 hgo hi1 hgsl
      have hcf := slices_ContainsFuncD (listsS rows nc) gs B A1 cb c1 w1.heap.size (w1.alloc (.cells #[.slice A1 gs.length c1] 22)) T (Fresh wr) (HB.out.keep (((HE.out.trans HX1.out).alloc _).kept T)) ((Blk.new w1 22 #[.slice A1 gs.length c1]).cell rfl) (HI1.out.keep (Kept.alloc _ _ _)) (fun l hl => by rw [HGSL.out]; obtain ⟨f, _, rfl⟩ := List.mem_map.1 hl; simp [classesS])
      rw [HLSL.out] at hcf
      have HCF := Lib.hid hcf
      clear hcf
      go_wp2_with fail
      refine HCF.out.mono ?_
      rintro e w2 ⟨rfl, hx2⟩
      have HX2 := Lib.hid hx2
      clear hx2
      have HF := Lib.hid (show (!((listsS rows nc).any fun l => !consB gs l)) = keyB rows nc (set.map Int.toNat) by
        unfold listsS keyB
        rw [List.any_map, List.not_any_eq_all_not]
        congr 1
        funext c
        simp only [Function.comp_apply, Bool.not_not]
        exact holdRows_eq HGO.out)
      go_wp2
      go_ret
      exact ⟨by rw [← HF.out]; rfl, HE.out.trans (HX1.out.trans (((Ext.refl w1).alloc _).trans HX2.out))⟩

def pairsS (n i : Nat) : List (List Int) := (List.range' (i + 1) (n - (i + 1))).map fun j : Nat => [(i : Int), (j : Int)]
def setsS (n : Nat) : List (List Int) := [[]] ++ ((List.range n).map fun i : Nat => [(i : Int)]) ++ (List.range n).flatMap (pairsS n)
def RetIss (w : World) (l : List (List Int)) (e : Ending) (w' : World) : Prop := ∃ A c, e = .returned (.slice A l.length c) ∧ l.length ≤ c ∧ RIss w' (Fresh w) A l ∧ Ext w w'
theorem OwnIss.add {w : World} {base c : Nat} {X : Nat → Prop} {A : Option Addr} {l : List (List Int)} (h : OwnIss w base X A c l) : ∃ hs, hs.length = l.length ∧ Own w base 22 1 A l.length c hs ∧ ∀ (i : Nat) (r : List Int), l[i]? = some r → ∃ (B : Option Addr) (e : Nat), hs[i]? = some (Value.slice B r.length e) ∧ r.length ≤ e ∧ Ints w (fun b => ob A ≠ some b ∧ X b) B r := by
  obtain ⟨hs, h1, h2⟩ := h
  exact ⟨hs, by simpa using h1.len, h1, h2⟩

set_option maxRecDepth 100000 in
set_option maxHeartbeats 1000000 in
theorem table_sets (n : Nat) (w : World) (hn : n ≤ 1000) : Calls Tryz.prog 81 #[.int .i64 (n : Int)] w (RetIss w (setsS n)) := by
  go_enter Tryz.func81, Tryz.ntmps81
  go_wp2
  have HB0 := Lib.hid (Blk.new (w.alloc (.cells #[] 3)) 22 #[.slice (some ⟨w.heap.size, 0, none⟩) 0 0])
  have hst : OwnIss ((w.alloc (.cells #[] 3)).alloc (.cells #[.slice (some ⟨w.heap.size, 0, none⟩) 0 0] 22)) w.heap.size (Fresh w) (some ⟨w.heap.size + 1, 0, none⟩) 1 ([[]] ++ (List.range 0).map fun i : Nat => [(i : Int)]) := by
    refine ⟨[.slice (some ⟨w.heap.size, 0, none⟩) 0 0], ?_, fun i r hr => ?_⟩
    · have := Own.of_blk (n := 1) (sz := 1) (base := w.heap.size) HB0.out (by simp) (by unfold maxLen; omega) (by simp)
      simpa using this
    · have hi : i = 0 := by
        have := (List.getElem?_eq_some_iff.1 hr).1
        simp at this
        exact this
      subst hi
      simp at hr
      subst hr
      exact ⟨_, 0, rfl, Nat.le_refl _, Ints.nil⟩
  have HST := Lib.hid hst
  clear hst
  go_loopw [10, 3] (fun i v wr => ∃ (k : Nat) (A' : Option Addr) (c' : Nat), k ≤ n ∧ i = .int .i64 k ∧ v = .slice A' (k + 1) c' ∧ Ext w wr ∧ OwnIss wr w.heap.size (Fresh w) A' c' ([[]] ++ (List.range k).map fun i : Nat => [(i : Int)])) (fun i _ _ => n - (intOf i).toNat)
  case atStart => exact ⟨0, _, _, Nat.zero_le _, rfl, rfl, ((Ext.refl w).alloc _).alloc _, HST.out⟩
  case round =>
    clear HST HB0
    obtain ⟨k, A', c', hk, rfl, rfl, hext, hown⟩ := hrel
    have HE := Lib.hid hext
    have HO := Lib.hid hown
    have hszw := hext.size
    clear hown hext
    by_cases hlt : k < n
    · have hll : ([[]] ++ (List.range k).map fun i : Nat => [(i : Int)]).length = k + 1 := by simp
      obtain ⟨hs, hhs, ho, hv⟩ := (HO.out.ext (((Ext.refl wr).alloc (.cells #[.int .i64 (k : Int)] 3)).alloc (.cells #[.slice (some ⟨wr.heap.size, 0, none⟩) 1 1] 22))).add
      rw [hll] at ho
      have HOWN := Lib.hid ho
      have HV := Lib.hid hv
      have HHS := Lib.hid hhs
      have HLL := Lib.hid hll
      have hbn := Blk.new (wr.alloc (.cells #[.int .i64 (k : Int)] 3)) 22 #[.slice (some ⟨wr.heap.size, 0, none⟩) 1 1]
      rw [show (wr.alloc (.cells #[.int .i64 (k : Int)] 3)).heap.size = wr.heap.size + 1 by simp] at hbn
      have HBN := Lib.hid hbn
      clear ho hv hhs hll hbn
      go_wp2_with (at_builtin; go_must (refine wpList_app rfl (.tmp 13) (.tmp 16) rfl tiIs rfl HOWN.out rfl (Blk.rd HBN.out) rfl (by simp [Value.oneCell']) (by omega) (by decide) (by simp; omega) ?_); intro A4 c4 w4 hown4 hg4 hat4)
      go_roundw
      case rel =>
        refine ⟨k + 1, A4, c4, by omega, by go_num, rfl, Ext.grown ((HE.out.alloc _).alloc _) hg4 (fun b hb => (HOWN.out.blk hb).1), ?_⟩
        rw [List.range_succ, List.map_append, ← List.append_assoc]
        refine OwnIss.push (r := [(k : Int)]) HHS.out HV.out (by rw [HLL.out]; exact hown4) hg4 hat4 (Nat.le_refl _) ⟨?_, by simp⟩
        refine ((Blk.rd (Blk.new wr 3 #[.int .i64 (k : Int)])).keep (Kept.alloc _ _ _)).mono fun i _ hi => ⟨fun h0 => ?_, ?_⟩
        · have := (HO.out.blk h0).2
          omega
        · unfold Fresh
          omega
      case measure => simp [intOf]; omega
    · obtain rfl : k = n := by omega
      have hgo0 : OwnIss wr w.heap.size (Fresh w) A' c' ([[]] ++ ((List.range k).map fun i : Nat => [(i : Int)]) ++ (List.range 0).flatMap (pairsS k)) := by
        have := HO.out
        simpa using this
      have HO2 := Lib.hid hgo0
      clear hgo0 HO
      go_wp2
      go_loopw [20, 3] (fun i v wr => ∃ (m : Nat) (A' : Option Addr) (c' : Nat) (l : List (List Int)), m ≤ k ∧ l = [[]] ++ ((List.range k).map fun i : Nat => [(i : Int)]) ++ (List.range m).flatMap (pairsS k) ∧ i = .int .i64 m ∧ v = .slice A' l.length c' ∧ Ext w wr ∧ l.length ≤ 2000 + m * 1000 ∧ OwnIss wr w.heap.size (Fresh w) A' c' l) (fun i _ _ => k - (intOf i).toNat)
      case atStart => exact ⟨0, _, _, _, Nat.zero_le _, rfl, rfl, by simp, HE.out, by simp; omega, HO2.out⟩
      case round =>
        clear HO2 HE hszw
        obtain ⟨m, A2, c2, l, hm, hl, rfl, rfl, hext2, hll2, hown2⟩ := hrel
        have HL := Lib.hid hl
        have HE2 := Lib.hid hext2
        have HO3 := Lib.hid hown2
        clear hl hext2 hown2
        obtain ⟨wo, rfl⟩ : ∃ wo : World, wo = wr := ⟨_, rfl⟩
        by_cases hlt2 : m < k
        · go_wp2
          go_loopw [6, 3] (fun i v wr => ∃ (q : Nat) (A' : Option Addr) (c' : Nat) (l2 : List (List Int)), q ≤ k - (m + 1) ∧ l2 = l ++ (List.range' (m + 1) q).map (fun j : Nat => [(m : Int), (j : Int)]) ∧ i = .int .i64 ((m + 1 + q : Nat) : Int) ∧ v = .slice A' l2.length c' ∧ Ext w wr ∧ l2.length ≤ l.length + q ∧ OwnIss wr w.heap.size (Fresh w) A' c' l2) (fun i _ _ => k - (intOf i).toNat)
          case atStart => exact ⟨0, A2, c2, l, Nat.zero_le _, by simp, by go_num, rfl, HE2.out, by simp, HO3.out⟩
          case round =>
            obtain ⟨q, A3, c3, l2, hq, hl2, rfl, rfl, hext3, hll3, hown3⟩ := hrel
            have HL2 := Lib.hid hl2
            have HE3 := Lib.hid hext3
            have HO4 := Lib.hid hown3
            have hszw := hext3.size
            clear hl2 hext3 hown3
            by_cases hlt3 : m + 1 + q < k
            · obtain ⟨hs, hhs, ho, hv⟩ := (HO4.out.ext (((Ext.refl wr).alloc (.cells #[.int .i64 (m : Int), .int .i64 ((m + 1 + q : Nat) : Int)] 3)).alloc (.cells #[.slice (some ⟨wr.heap.size, 0, none⟩) 2 2] 22))).add
              have HOWN := Lib.hid ho
              have HV := Lib.hid hv
              have HHS := Lib.hid hhs
              have hbn := Blk.new (wr.alloc (.cells #[.int .i64 (m : Int), .int .i64 ((m + 1 + q : Nat) : Int)] 3)) 22 #[.slice (some ⟨wr.heap.size, 0, none⟩) 2 2]
              rw [show (wr.alloc (.cells #[.int .i64 (m : Int), .int .i64 ((m + 1 + q : Nat) : Int)] 3)).heap.size = wr.heap.size + 1 by simp] at hbn
              have HBN := Lib.hid hbn
              clear ho hv hhs hbn
              go_wp2_with (at_builtin; go_must (refine wpList_app rfl (.tmp 30) (.tmp 34) rfl tiIs rfl HOWN.out rfl (Blk.rd HBN.out) rfl (by simp [Value.oneCell']) (by omega) (by decide) (by simp; omega) ?_); intro A4 c4 w4 hown4 hg4 hat4)
              go_roundw
              case rel =>
                refine ⟨q + 1, A4, c4, l2 ++ [[(m : Int), ((m + 1 + q : Nat) : Int)]], by omega, ?_, by go_num, by simp, Ext.grown ((HE3.out.alloc _).alloc _) hg4 (fun b hb => (HOWN.out.blk hb).1), by simp; omega, ?_⟩
                · rw [HL2.out, List.range'_1_concat, List.map_append, ← List.append_assoc]
                  simp
                · refine OwnIss.push (r := [(m : Int), ((m + 1 + q : Nat) : Int)]) HHS.out HV.out hown4 hg4 hat4 (Nat.le_refl _) ⟨?_, by simp⟩
                  refine ((Blk.rd (Blk.new wr 3 #[.int .i64 (m : Int), .int .i64 ((m + 1 + q : Nat) : Int)])).keep (Kept.alloc _ _ _)).mono fun i _ hi => ⟨fun h0 => ?_, ?_⟩
                  · have := (HO4.out.blk h0).2
                    omega
                  · unfold Fresh
                    omega
              case measure => simp [intOf]; omega
            · have hqe : q = k - (m + 1) := by omega
              have HQ := Lib.hid hqe
              clear hqe
              go_wp2
              go_roundw
              case rel =>
                refine ⟨m + 1, A3, c3, l2, by omega, ?_, by go_num, rfl, HE3.out, by omega, HO4.out⟩
                rw [HL2.out, HL.out, HQ.out, List.range_succ, List.flatMap_append, ← List.append_assoc]
                simp [pairsS]
              case measure => simp [intOf]; omega
        · obtain rfl : m = k := by omega
          obtain rfl : l = setsS m := HL.out
          have HC := Lib.hid (show (setsS m).length ≤ c2 by obtain ⟨hs, _, h1, _⟩ := HO3.out.add; exact h1.cap)
          clear HL
          go_wp2
          go_ret
          exact ⟨A2, c2, rfl, HC.out, HO3.out.riss (by omega) (fun b hb => (HO3.out.blk hb).1) (fun _ h => h), HE2.out⟩
end Go.Proofs.YtcmmkeiiapbgcaaGreatDoor
/- The program's table.Closure: the sorted list of the least set that contains the columns and is closed under the dependencies. Conditions: the arguments read as data; there are at most 4294967296 of them together. -/
namespace Go.Proofs.YtcmmkeiiapbgcaaGreatDoor
open Go Go.RowKit

theorem nodup_len {α : Type} [DecidableEq α] : ∀ {l m : List α}, l.Nodup → (∀ x ∈ l, x ∈ m) → l.length ≤ m.length
  | [], _, _, _ => Nat.zero_le _
  | x :: l, m, hn, hs => by
    have hx : x ∈ m := hs x (List.mem_cons_self)
    have h1 := List.nodup_cons.1 hn
    have := nodup_len (l := l) (m := m.erase x) h1.2 (fun y hy => by
      have hne : y ≠ x := fun e => h1.1 (e ▸ hy)
      exact (List.mem_erase_of_ne hne).2 (hs y (List.mem_cons_of_mem _ hy)))
    rw [List.length_erase_of_mem hx] at this
    have hp : 0 < m.length := List.length_pos_of_mem hx
    simp
    omega
/-- What the set is while it is being closed. -/
structure Part (l : List Dep) (frm ks : List ByteArray) : Prop where
  nodup : ks.Nodup
  base : ∀ x ∈ frm, x ∈ ks
  least : ∀ T : ByteArray → Prop, (∀ x ∈ frm, T x) → (∀ d ∈ l, (∀ x ∈ d.frm, T x) → T d.to) → ∀ x ∈ ks, T x
theorem Part.len {l : List Dep} {frm ks : List ByteArray} (h : Part l frm ks) : ks.length ≤ frm.length + l.length := by
  have := nodup_len h.nodup (m := frm ++ l.map Dep.to) (h.least (fun x => x ∈ frm ++ l.map Dep.to) (fun x hx => List.mem_append_left _ hx) (fun d hd _ => List.mem_append_right _ (List.mem_map_of_mem hd)))
  simpa using this
theorem Part.add {l : List Dep} {frm ks : List ByteArray} (h : Part l frm ks) {d : Dep} (hd : d ∈ l) (hf : ∀ x ∈ d.frm, x ∈ ks) (hx : d.to ∉ ks) : Part l frm (ks ++ [d.to]) := by
  refine ⟨?_, fun x hx => List.mem_append_left _ (h.base x hx), fun T h1 h2 x hx => ?_⟩
  · rw [List.nodup_append]
    refine ⟨h.nodup, by simp, ?_⟩
    intro a ha b hb
    simp at hb
    subst hb
    exact fun e => hx (e ▸ ha)
  · rcases List.mem_append.1 hx with hx | hx
    · exact h.least T h1 h2 x hx
    · simp at hx
      subst hx
      exact h2 d hd (fun y hy => h.least T h1 h2 y (hf y hy))
theorem any_mem {l ks : List ByteArray} : (l.any fun x => !memB ks x) = false ↔ ∀ x ∈ l, x ∈ ks := by
  rw [List.any_eq_false]
  constructor
  · intro h x hx
    have := h x hx
    rw [← memB_iff]
    simpa using this
  · intro h x hx
    have := (memB_iff ks x).2 (h x hx)
    simp [this]
def RetC (w : World) (l : List Dep) (frm : List ByteArray) (e : Ending) (w' : World) : Prop := ∃ ks, IsClosure l frm ks ∧ RetSs w (sortS ks) e w'

set_option maxRecDepth 100000 in
set_option maxHeartbeats 1000000 in
theorem table_Closure (l : List Dep) (frm : List ByteArray) (A B : Option Addr) (ca cb : Nat) (w : World) (S T : Nat → Prop) (hA : RDeps w S A l) (hB : Strs w T B frm) (hsm : frm.length + l.length ≤ 4294967296) :
    Calls Tryz.prog 25 #[.slice A l.length ca, .slice B frm.length cb] w (RetC w l frm) := by
  have hal := hA.1
  have hbl := hB.2.1
  have HA := Lib.hid hA
  have HB := Lib.hid hB
  clear hA hB
  have hmm := @run_makeMap Tryz.prog
  go_enter Tryz.func25, Tryz.ntmps25
  go_wp2
  go_step3
  go_wp2
  clear hmm
  have HBX := Lib.hid (Blk.new (w.alloc (.map #[] 0)) 90 #[.map (some w.heap.size)])
  have HSET := Lib.hid (show SetIs ((w.alloc (.map #[] 0)).alloc (.cells #[.map (some w.heap.size)] 90)) w.heap.size [] from (MapIs.made w _).keep (Kept.alloc _ _ _))
  go_loopw [15] (fun i wr => ∃ (k : Nat) (ks : List ByteArray), k ≤ frm.length ∧ i = .int .i64 k ∧ Ext w wr ∧ w.heap.size + 1 < wr.heap.size ∧ wr.cell? ⟨w.heap.size + 1, 0, none⟩ = some (.map (some w.heap.size)) ∧ SetIs wr w.heap.size ks ∧
      ks.Nodup ∧ (∀ j (h : j < frm.length), j < k → frm[j] ∈ ks) ∧ (∀ x ∈ ks, x ∈ frm)) (fun i _ => frm.length - (intOf i).toNat)
  case atStart => exact ⟨0, [], Nat.zero_le _, rfl, ((Ext.refl w).alloc _).alloc _, by simp, by simp, HSET.out, by simp, by intros; omega, by simp⟩
  case round =>
    obtain ⟨k, ks, hk, rfl, hext, hsz, hbox, hset, h1, h2, h3⟩ := hrel
    have HE := Lib.hid hext
    have HS := Lib.hid hset
    have H1 := Lib.hid h1
    have H2 := Lib.hid h2
    have H3 := Lib.hid h3
    clear hset h1 h2 h3
    by_cases hlt : k < frm.length
    · obtain ⟨b1, o1, rfl, z1, c1⟩ := (HB.out.keep (hext.kept T)).at_ hlt
      obtain ⟨w', ks', hup, hset', hg', hks⟩ := HS.out.put frm[k]
      have HS' := Lib.hid hset'
      have HG' := Lib.hid hg'
      have HKS := Lib.hid hks
      have HBX2 := Lib.hid hbox
      clear hset' hg' hks hext
      go_wp2
      go_roundw
      case rel =>
        refine ⟨k + 1, ks', by omega, by go_num, HE.out.grown HG'.out (fun b hb => by injection hb with hb; omega), by have := HG'.out.size; omega, ?_, HS'.out, ?_, fun j h hj => ?_, fun x hx => ?_⟩
        · rw [World.cell?_of_block (HG'.out.block (w.heap.size + 1) hsz (fun e => by injection e with e; omega))]
          exact HBX2.out
        · rcases HKS.out with ⟨_, rfl⟩ | ⟨hn, rfl⟩
          · exact H1.out
          · rw [List.nodup_append]
            refine ⟨H1.out, by simp, ?_⟩
            intro a ha b hb
            simp at hb
            subst hb
            exact fun e => hn (e ▸ ha)
        · rcases HKS.out with ⟨hm, rfl⟩ | ⟨hn, rfl⟩
          · by_cases hjk : j = k
            · subst hjk; exact hm
            · exact H2.out j h (by omega)
          · by_cases hjk : j = k
            · subst hjk; simp
            · exact List.mem_append_left _ (H2.out j h (by omega))
        · rcases HKS.out with ⟨hm, rfl⟩ | ⟨hn, rfl⟩
          · exact H3.out x hx
          · rcases List.mem_append.1 hx with hx | hx
            · exact H3.out x hx
            · simp at hx
              subst hx
              exact List.getElem_mem hlt
      case measure => simp [intOf]; omega
    · have hpart : Part l frm ks := ⟨H1.out, fun x hx => by
        obtain ⟨i, hi, rfl⟩ := List.mem_iff_getElem.1 hx
        exact H2.out i hi (by omega), fun T h1 _ x hx => h1 x (H3.out x hx)⟩
      have HP := Lib.hid hpart
      have HBX2 := Lib.hid hbox
      have HSZ := Lib.hid hsz
      clear hpart hext hbox hsz
      go_wp2
      go_step3
      go_wp2
      go_loopg [9] (frm.length + l.length + 1) (fun gk _ wr => ∃ ks : List ByteArray, frm.length + l.length + 1 ≤ gk + ks.length ∧ Ext w wr ∧ w.heap.size + 1 < wr.heap.size ∧ wr.cell? ⟨w.heap.size + 1, 0, none⟩ = some (.map (some w.heap.size)) ∧ SetIs wr w.heap.size ks ∧ Part l frm ks)
      case atStart => exact ⟨ks, by omega, HE.out, HSZ.out, HBX2.out, HS.out, HP.out⟩
      case round =>
        clear HE HS H1 H2 H3 HP HBX2 HSZ HBX HSET hlt hk
        obtain ⟨ks0, hgk, hext, hsz, hbox, hset, hpart⟩ := hrel
        have hkl := hpart.len
        have HE := Lib.hid hext
        have HS := Lib.hid hset
        have HP := Lib.hid hpart
        have hlen := hset.len 3
        have HBX := Lib.hid hbox
        have HGK := Lib.hid hgk
        clear hset hpart hext hgk
        go_wp2
        clear hlen
        obtain ⟨wo, rfl⟩ : ∃ wo : World, wo = wr := ⟨_, rfl⟩
        clear hbox
        go_loopw [27] (fun i wi => ∃ (j : Nat) (ks : List ByteArray), j ≤ l.length ∧ i = .int .i64 j ∧ Ext w wi ∧ w.heap.size + 1 < wi.heap.size ∧ wi.cell? ⟨w.heap.size + 1, 0, none⟩ = some (.map (some w.heap.size)) ∧ SetIs wi w.heap.size ks ∧ Part l frm ks ∧ ks0.length ≤ ks.length ∧
            (ks.length = ks0.length → ks = ks0 ∧ ∀ m (h : m < l.length), m < j → (∀ x ∈ l[m].frm, x ∈ ks0) → l[m].to ∈ ks0)) (fun i _ => l.length - (intOf i).toNat)
        case atStart => exact ⟨0, ks0, Nat.zero_le _, rfl, HE.out, hsz, HBX.out, HS.out, HP.out, Nat.le_refl _, fun _ => ⟨rfl, by intros; omega⟩⟩
        case round =>
          obtain ⟨j, ks, hj, rfl, hexi, hszi, hbxi, hsti, hpti, hle, hsame⟩ := hrel
          have HEI := Lib.hid hexi
          have HSI := Lib.hid hsti
          have HPI := Lib.hid hpti
          have HSAME := Lib.hid hsame
          have HBI := Lib.hid hbxi
          have hkl2 := hpti.len
          clear hsti hpti hsame
          by_cases hlt : j < l.length
          · obtain ⟨b1, o1, B2, c2, rfl, z1, p0, p1, hcp, hts, hstr⟩ := (HA.out.keep (hexi.kept S)).at_ hlt
            have HSTR := Lib.hid hstr
            clear hstr hexi
            have HCF := Lib.hid (slices_ContainsFuncS l[j].frm B2 c2 (w.heap.size + 1) w.heap.size ks (wr.alloc (.cells #[.slice B2 l[j].frm.length c2, .string l[j].to] 52)) S (HSTR.out.keep (Kept.alloc _ _ _)) (((Ext.refl wr).alloc _).cell HBI.out) (HSI.out.keep (Kept.alloc _ _ _)))
            cases hany : (l[j].frm.any fun x => !memB ks x)
            · have hall := any_mem.1 hany
              have HALL := Lib.hid hall
              have HANY := Lib.hid hany
              clear hall hany
              obtain ⟨w', ks', hup, hset', hg', hks⟩ := (HSI.out.keep (Kept.alloc _ wr (.cells #[.slice B2 l[j].frm.length c2, .string l[j].to] 52)) : SetIs _ _ _).put l[j].to
              have HS' := Lib.hid hset'
              have HG' := Lib.hid hg'
              have HKS := Lib.hid hks
              clear hset' hg' hks
              go_wp2_with (go_at_call 68; refine HCF.out.mono ?_; rintro e1 w1 ⟨rfl, rfl⟩; rw [HANY.out])
              go_roundw
              case rel =>
                have hszw := HG'.out.size
                simp at hszw
                refine ⟨j + 1, ks', by omega, by go_num, (HEI.out.alloc _).grown HG'.out (fun b hb => by injection hb with hb; omega), by omega, ?_, HS'.out, ?_, ?_, ?_⟩
                · rw [World.cell?_of_block (HG'.out.block (w.heap.size + 1) (by simp; omega) (fun e => by injection e with e; omega))]
                  exact ((Ext.refl wr).alloc _).cell HBI.out
                · rcases HKS.out with ⟨_, rfl⟩ | ⟨hn, rfl⟩
                  · exact HPI.out
                  · exact HPI.out.add (List.getElem_mem hlt) HALL.out hn
                · rcases HKS.out with ⟨_, rfl⟩ | ⟨hn, rfl⟩
                  · exact hle
                  · simp; omega
                · intro hsl
                  rcases HKS.out with ⟨hm, rfl⟩ | ⟨hn, rfl⟩
                  · obtain ⟨e1, e2⟩ := HSAME.out hsl
                    refine ⟨e1, fun m h hm2 hf => ?_⟩
                    by_cases hmj : m = j
                    · subst hmj; rw [← e1]; exact hm
                    · exact e2 m h (by omega) hf
                  · simp at hsl
                    omega
              case measure => simp [intOf]; omega
            · have HANY := Lib.hid hany
              clear hany
              go_wp2_with (go_at_call 68; refine HCF.out.mono ?_; rintro e1 w1 ⟨rfl, rfl⟩; rw [HANY.out])
              go_roundw
              case rel =>
                refine ⟨j + 1, ks, by omega, by go_num, HEI.out.alloc _, by simp; omega, ((Ext.refl wr).alloc _).cell HBI.out, HSI.out.keep (Kept.alloc _ _ _), HPI.out, hle, fun hsl => ?_⟩
                obtain ⟨e1, e2⟩ := HSAME.out hsl
                refine ⟨e1, fun m h hm2 hf => ?_⟩
                by_cases hmj : m = j
                · subst hmj
                  exfalso
                  rw [← e1] at hf
                  have := any_mem.2 hf
                  rw [HANY.out] at this
                  cases this
                · exact e2 m h (by omega) hf
              case measure => simp [intOf]; omega
          · have hlen := HSI.out.len 3
            clear hexi
            by_cases heq : ks.length = ks0.length
            · have heq' : ((ks.length : Int) == (ks0.length : Int)) = true := by simp [heq]
              obtain ⟨rfl, hcl⟩ := HSAME.out heq
              have HCL := Lib.hid (show IsClosure l frm ks from ⟨HPI.out.nodup, HPI.out.base, fun d hd hf => by
                obtain ⟨i, hi, rfl⟩ := List.mem_iff_getElem.1 hd
                exact hcl i hi (by omega) hf, HPI.out.least⟩)
              have hksz : ∀ x ∈ ks, x.size ≤ 4294967296 := HPI.out.least _ (fun x hx => HB.out.2.2 x hx) (fun d hd _ => by
                obtain ⟨i, hi, rfl⟩ := List.mem_iff_getElem.1 hd
                obtain ⟨_, _, _, _, _, _, _, _, _, h9, _⟩ := HA.out.at_ hi
                exact h9)
              have HKSZ := Lib.hid hksz
              clear heq hcl hksz
              go_wp2_with fail
              refine (maps_Keys w.heap.size _).mono ?_
              rintro e1 w1 ⟨rfl, rfl⟩
              go_wp2_with fail
              refine (slices_Sorted w.heap.size (ks.map fun k => (k, Value.bool true)) _ HSI.out (by simp) (by simpa using HKSZ.out) (by simp; omega)).mono ?_
              have hmk : (ks.map fun k => (k, Value.bool true)).map (·.1) = ks := by simp [Function.comp_def]
              rw [hmk]
              clear hmk
              rintro e1 w1 ⟨A9, c9, rfl, hc9, hs9, hx9⟩
              have HX9 := Lib.hid hx9
              clear hx9 hlen
              go_wp2
              rw [Exit.noGoto_ret]
              go_ret
              exact ⟨ks, HCL.out, A9, c9, rfl, hc9, hs9.mono (T := Fresh w) (fun i _ hi => by unfold Fresh at hi ⊢; simp at hi; omega), HEI.out.trans (((Ext.refl wr).alloc _).trans HX9.out)⟩
            · have heq' : ((ks.length : Int) == (ks0.length : Int)) = false := by
                rw [beq_eq_false_iff_ne]
                omega
              go_wp2
              go_roundg (gk - 1)
              case measure => have := HGK.out; omega
              case rel => exact ⟨ks, by have := HGK.out; omega, HEI.out, hszi, HBI.out, HSI.out, HPI.out⟩
end Go.Proofs.YtcmmkeiiapbgcaaGreatDoor
/- Dependencies of a call's own memory, for the program's table.Keys and the references. No conditions. -/
namespace Go.Proofs.YtcmmkeiiapbgcaaGreatDoor
open Go Go.RowKit

/-- A slice of dependencies of the call's own. -/
def OwnDs (w : World) (base : Nat) (X : Nat → Prop) (A : Option Addr) (c : Nat) (l : List Dep) : Prop :=
  ∃ xs, Own w base 52 2 A l.length c xs ∧ ∀ (i : Nat) (d : Dep), l[i]? = some d → ∃ (B : Option Addr) (e : Nat), xs[i * 2]? = some (.slice B d.frm.length e) ∧ xs[i * 2 + 1]? = some (.string d.to) ∧ d.frm.length ≤ e ∧ d.to.size ≤ 4294967296 ∧ Strs w (fun b => ob A ≠ some b ∧ X b) B d.frm
theorem Strs.move {w w' : World} {S T : Nat → Prop} {l : List ByteArray} {B : Option Addr} (h : Strs w S B l) (k : Kept S w w') (m : ∀ i, i < w.heap.size → S i → T i) : Strs w' T B l :=
  ((Strs.mono h (T := fun b => S b ∧ T b) fun i hi hs => ⟨hs, m i hi hs⟩).keep (k.mono fun _ _ hh => hh.1)).mono fun _ _ hh => hh.2
theorem OwnDs.nil (w : World) (base : Nat) (X : Nat → Prop) : OwnDs w base X none 0 [] := ⟨[], Own.nil _ _ _ _, by simp⟩
theorem OwnDs.keep {w w' : World} {base c : Nat} {X : Nat → Prop} {A : Option Addr} {l : List Dep} (h : OwnDs w base X A c l) (hk : Kept (fun b => ob A = some b ∨ X b) w w') : OwnDs w' base X A c l := by
  obtain ⟨hs, h1, h2⟩ := h
  refine ⟨hs, h1.keep (hk.mono fun _ _ hh => Or.inl hh), fun i r hr => ?_⟩
  obtain ⟨B, e, h3, h4, h5, h6, h7⟩ := h2 i r hr
  exact ⟨B, e, h3, h4, h5, h6, h7.keep (hk.mono fun _ _ hh => Or.inr hh.2)⟩
theorem OwnDs.ext {w w' : World} {base c : Nat} {X : Nat → Prop} {A : Option Addr} {l : List Dep} (h : OwnDs w base X A c l) (hx : Ext w w') : OwnDs w' base X A c l := h.keep (hx.kept _)
theorem OwnDs.mono {w : World} {base c : Nat} {X T : Nat → Prop} {A : Option Addr} {l : List Dep} (h : OwnDs w base X A c l) (hm : ∀ b, b < w.heap.size → X b → T b) : OwnDs w base T A c l := by
  obtain ⟨hs, h1, h2⟩ := h
  refine ⟨hs, h1, fun i r hr => ?_⟩
  obtain ⟨B, e, h3, h4, h5, h6, h7⟩ := h2 i r hr
  exact ⟨B, e, h3, h4, h5, h6, h7.mono fun i hi hh => ⟨hh.1, hm i hi hh.2⟩⟩
theorem OwnDs.push {w w' : World} {base c' : Nat} {X : Nat → Prop} {A A' : Option Addr} {l : List Dep} {r : Dep} {B : Option Addr} {e : Nat} {hs : List Value} (ho : hs.length = l.length * 2)
    (hv : ∀ (i : Nat) (d : Dep), l[i]? = some d → ∃ (B : Option Addr) (e : Nat), hs[i * 2]? = some (.slice B d.frm.length e) ∧ hs[i * 2 + 1]? = some (.string d.to) ∧ d.frm.length ≤ e ∧ d.to.size ≤ 4294967296 ∧ Strs w (fun b => ob A ≠ some b ∧ X b) B d.frm)
    (hown : Own w' base 52 2 A' (l.length + 1) c' (hs ++ [Value.slice B r.frm.length e, .string r.to])) (hg : w.grownBy w' (ob A)) (hat : ob A' = ob A ∨ ob A' = some w.heap.size)
    (hre : r.frm.length ≤ e) (hrt : r.to.size ≤ 4294967296) (hy : Strs w (fun b => ob A ≠ some b ∧ X b) B r.frm) : OwnDs w' base X A' c' (l ++ [r]) := by
  have hk : Kept (fun b => ob A ≠ some b ∧ X b) w w' := Kept.of_grown hg (fun b hb _ e => hb.1 e.symm)
  have hm : ∀ i, i < w.heap.size → (ob A ≠ some i ∧ X i) → (ob A' ≠ some i ∧ X i) := by
    rintro i hi ⟨h1, h2⟩
    refine ⟨?_, h2⟩
    rcases hat with e | e <;> rw [e]
    · exact h1
    · intro h; injection h with h; omega
  refine ⟨_, by simpa using hown, fun i r' hr => ?_⟩
  rcases Nat.lt_or_ge i l.length with hlt | hge
  · rw [List.getElem?_append_left hlt] at hr
    obtain ⟨B', e', h3, h4, h5, h6, h7⟩ := hv i r' hr
    exact ⟨B', e', by rw [List.getElem?_append_left (by omega)]; exact h3, by rw [List.getElem?_append_left (by omega)]; exact h4, h5, h6, h7.move hk hm⟩
  · rw [List.getElem?_append_right hge] at hr
    have hj0 : i - l.length = 0 := by
      rcases Nat.eq_zero_or_pos (i - l.length) with h0 | h0
      · exact h0
      · rw [List.getElem?_eq_none (by simp; omega)] at hr
        cases hr
    rw [hj0] at hr
    simp at hr
    subst hr
    obtain rfl : i = l.length := by omega
    exact ⟨B, e, by rw [List.getElem?_append_right (by omega), ho, Nat.sub_self]; rfl, by rw [List.getElem?_append_right (by omega), ho, Nat.add_sub_cancel_left]; rfl, hre, hrt, hy.move hk hm⟩
theorem OwnDs.rdeps {w : World} {base c : Nat} {X T : Nat → Prop} {A : Option Addr} {l : List Dep} (h : OwnDs w base X A c l) (hl : l.length ≤ 4294967296) (h1 : ∀ b, ob A = some b → T b) (h2 : ∀ b, X b → T b) : RDeps w T A l := by
  obtain ⟨hs, ho, hv⟩ := h
  refine ⟨hl, hs, ho.rd.mono fun i _ hi => h1 i hi, by simpa using ho.len, fun i r hr => ?_⟩
  obtain ⟨B, e, h3, h4, h5, h6, h7⟩ := hv i r hr
  exact ⟨B, e, h3, h4, h5, h6, h7.mono fun i _ hi => h2 i hi.2⟩
theorem OwnDs.blk {w : World} {base c : Nat} {X : Nat → Prop} {A : Option Addr} {l : List Dep} (h : OwnDs w base X A c l) {k : Nat} (hk : ob A = some k) : base ≤ k ∧ k < w.heap.size := by
  obtain ⟨xs, ho, _⟩ := h
  exact ho.blk hk
theorem OwnDs.add {w : World} {base c : Nat} {X : Nat → Prop} {A : Option Addr} {l : List Dep} (h : OwnDs w base X A c l) : ∃ hs, hs.length = l.length * 2 ∧ Own w base 52 2 A l.length c hs ∧ ∀ (i : Nat) (d : Dep), l[i]? = some d → ∃ (B : Option Addr) (e : Nat), hs[i * 2]? = some (.slice B d.frm.length e) ∧ hs[i * 2 + 1]? = some (.string d.to) ∧ d.frm.length ≤ e ∧ d.to.size ≤ 4294967296 ∧ Strs w (fun b => ob A ≠ some b ∧ X b) B d.frm := by
  obtain ⟨hs, h1, h2⟩ := h
  exact ⟨hs, h1.len, h1, h2⟩
theorem OwnIss.keep {w w' : World} {base c : Nat} {X : Nat → Prop} {A : Option Addr} {l : List (List Int)} (h : OwnIss w base X A c l) (hk : Kept (fun b => ob A = some b ∨ X b) w w') : OwnIss w' base X A c l := by
  obtain ⟨hs, h1, h2⟩ := h
  refine ⟨hs, h1.keep (hk.mono fun _ _ hh => Or.inl hh), fun i r hr => ?_⟩
  obtain ⟨B, e, h3, h4, h7⟩ := h2 i r hr
  exact ⟨B, e, h3, h4, h7.keep (hk.mono fun _ _ hh => Or.inr hh.2)⟩
theorem infoD : (Tryz.prog.info? 52).map (fun i => (i.zero, i.size, i.bytes)) = some (some (.agg #[.slice none 0 0, .string ⟨#[]⟩]), 2, 40) := by kernel_rfl
theorem tiD : TI Tryz.prog 49 52 2 40 := TI.mk_ Tryz.underlying49 infoD rfl (by decide)

def depsOf (cols : List ByteArray) (s : List Int) (n : Nat) : List Dep := ((List.range n).filter fun c : Nat => !memI s (c : Int)).map fun c => ⟨namesS cols s, cols.getD c ⟨#[]⟩⟩
def keyStep (cols : List ByteArray) (rows : List (List Val)) (st : List (List Int) × List Dep) (s : List Int) : List (List Int) × List Dep :=
  if st.1.any (fun k => subI k s) then st else if !keyB rows cols.length (s.map Int.toNat) then st else (st.1 ++ [s], st.2 ++ depsOf cols s cols.length)
def nodupB (l : List ByteArray) : Bool := decide l.Nodup
def keysS (cols : List ByteArray) (rows : List (List Val)) : List Dep :=
  if !nodupB cols || !regB cols rows then [] else ((setsS cols.length).foldl (keyStep cols rows) ([], [])).2
def RetDs (w : World) (l : List Dep) (e : Ending) (w' : World) : Prop := ∃ A c, e = .returned (.slice A l.length c) ∧ l.length ≤ c ∧ RDeps w' (Fresh w) A l ∧ Ext w w'
end Go.Proofs.YtcmmkeiiapbgcaaGreatDoor
/- The program's table.Keys. Conditions: the arguments read as data, at most 1000 columns. -/
namespace Go.Proofs.YtcmmkeiiapbgcaaGreatDoor
open Go Go.RowKit

theorem setsS_len (n : Nat) (hn : n ≤ 1000) : (setsS n).length ≤ 1002000 := by
  unfold setsS
  have : ∀ m, ((List.range m).flatMap (pairsS n)).length ≤ m * 1000 := by
    intro m
    induction m with
    | zero => simp
    | succ m ih =>
      rw [List.range_succ, List.flatMap_append, List.length_append]
      have : ([m].flatMap (pairsS n)).length ≤ 1000 := by simp [pairsS]; omega
      omega
  have := this n
  simp only [List.length_append, List.length_map, List.length_range, List.length_cons, List.length_nil]
  omega
theorem setsS_in (n : Nat) : ∀ s ∈ setsS n, ∀ c ∈ s, 0 ≤ c ∧ c < (n : Int) := by
  intro s hs c hc
  unfold setsS at hs
  rcases List.mem_append.1 hs with hs | hs
  · rcases List.mem_append.1 hs with hs | hs
    · simp at hs; subst hs; simp at hc
    · obtain ⟨i, hi, rfl⟩ := List.mem_map.1 hs
      simp at hc hi
      omega
  · obtain ⟨i, hi, h2⟩ := List.mem_flatMap.1 hs
    unfold pairsS at h2
    obtain ⟨j, hj, rfl⟩ := List.mem_map.1 h2
    simp [List.mem_range'] at hc hi hj
    rcases hc with rfl | rfl <;> omega
theorem depsOf_succ (cols : List ByteArray) (s : List Int) (m : Nat) : depsOf cols s (m + 1) = depsOf cols s m ++ if memI s (m : Int) then [] else [⟨namesS cols s, cols.getD m ⟨#[]⟩⟩] := by
  unfold depsOf
  rw [List.range_succ, List.filter_append, List.map_append]
  congr 1
  cases h : memI s (m : Int) <;> simp [h]
theorem depsOf_len (cols : List ByteArray) (s : List Int) (m : Nat) : (depsOf cols s m).length ≤ m := by
  unfold depsOf
  rw [List.length_map]
  exact Nat.le_trans (List.length_filter_le _ _) (by simp)

set_option maxRecDepth 100000 in
set_option maxHeartbeats 1000000 in
theorem table_Keys (q : Nat) (cols : List ByteArray) (rows : List (List Val)) (A B : Option Addr) (ca cb : Nat) (w : World) (S T : Nat → Prop) (hA : Strs w S A cols) (hB : Rows w T q B rows) (hn : cols.length ≤ 1000) :
    Calls Tryz.prog 39 #[.slice A cols.length ca, .slice B rows.length cb] w (RetDs w (keysS cols rows)) := by
  have hcl := hA.2.1
  have hrl := hB.len
  have HA := Lib.hid hA
  have HB := Lib.hid hB
  clear hA hB
  cases hnd : nodupB cols
  · have HND := Lib.hid (show decide cols.Nodup = false from hnd)
    have HF := Lib.hid (show keysS cols rows = [] by unfold keysS; rw [hnd]; rfl)
    clear hnd
    go_enter Tryz.func39, Tryz.ntmps39
    go_wp2_with (go_at_call 80; refine (table_different cols _ _ _ S HA.out).mono ?_; rintro e w' ⟨rfl, hx⟩; have HX := Lib.hid hx; clear hx; rw [HND.out])
    go_ret
    exact ⟨none, 0, by rw [HF.out]; rfl, by rw [HF.out]; exact Nat.le_refl _, by rw [HF.out]; exact ⟨by simp, [], Rd.nil, rfl, by simp⟩, HX.out⟩
  have HND := Lib.hid (show decide cols.Nodup = true from hnd)
  cases hrg : regB cols rows
  · have HRG := Lib.hid hrg
    have HF := Lib.hid (show keysS cols rows = [] by unfold keysS; rw [hrg]; simp)
    clear hnd hrg
    go_enter Tryz.func39, Tryz.ntmps39
    go_wp2_with (first | (go_at_call 80; refine (table_different cols _ _ _ S HA.out).mono ?_; rintro e w' ⟨rfl, hx⟩; have HX := Lib.hid hx; clear hx; rw [HND.out]) | (go_at_call 62; refine (table_regular q cols rows _ _ _ _ _ T hcl (HB.out.keep (HX.out.kept T))).mono ?_; rintro e w' ⟨rfl, rfl⟩; rw [HRG.out]))
    go_ret
    exact ⟨none, 0, by rw [HF.out]; rfl, by rw [HF.out]; exact Nat.le_refl _, by rw [HF.out]; exact ⟨by simp, [], Rd.nil, rfl, by simp⟩, HX.out⟩
  have HRG := Lib.hid hrg
  have HF := Lib.hid (show keysS cols rows = ((setsS cols.length).foldl (keyStep cols rows) ([], [])).2 by unfold keysS; rw [hnd, hrg]; rfl)
  have hrow : ∀ c, c < cols.length → ∀ j (h : j < rows.length), c < rows[j].length := by
    intro c hc j hj
    have := hrg
    unfold regB at this
    rw [List.all_eq_true] at this
    have h9 := this rows[j] (List.getElem_mem hj)
    simp at h9
    omega
  have HROW := Lib.hid hrow
  clear hnd hrg hrow
  go_enter Tryz.func39, Tryz.ntmps39
  go_wp2_with (first | (go_at_call 80; refine (table_different cols _ _ _ S HA.out).mono ?_; rintro e w' ⟨rfl, hx⟩; have HX := Lib.hid hx; clear hx; rw [HND.out]) | (go_at_call 62; refine (table_regular q cols rows _ _ _ _ _ T hcl (HB.out.keep (HX.out.kept T))).mono ?_; rintro e w' ⟨rfl, rfl⟩; rw [HRG.out]))
  go_loopw [24, 5] (fun i v wr => ∃ (k : Nat) (A' : Option Addr) (c' : Nat), k ≤ cols.length ∧ i = .int .i64 k ∧ v = .slice A' k c' ∧ Ext w wr ∧ OwnIss wr w.heap.size (fun b => w.heap.size ≤ b) A' c' ((listsS rows cols.length).take k)) (fun i _ _ => cols.length - (intOf i).toNat)
  case atStart => exact ⟨0, none, 0, Nat.zero_le _, rfl, rfl, HX.out, OwnIss.nil _ _ _⟩
  case round =>
    clear HX
    obtain ⟨k, A', c', hk, rfl, rfl, hext, hown⟩ := hrel
    have HE := Lib.hid hext
    have HO := Lib.hid hown
    have hml : (listsS rows cols.length).length = cols.length := by simp [listsS]
    have HML := Lib.hid hml
    have hszw := hext.size
    clear hown hml hext
    by_cases hlt : k < cols.length
    · go_wp2_with fail
      refine (table_classes q rows _ _ k _ T (HB.out.keep (HE.out.kept T)) (HROW.out k hlt)).mono ?_
      rintro e w1 ⟨A1, c1', rfl, hcp1, hi1, hx1⟩
      have HX1 := Lib.hid hx1
      have hsz1 := hx1.size
      have HI1 := Lib.hid hi1
      clear hx1 hi1
      have hval : (listsS rows cols.length)[k]'(by rw [HML.out]; exact hlt) = classesS rows k := by simp [listsS]
      have HVAL := Lib.hid hval
      have hlk : ((listsS rows cols.length).take k).length = k := by rw [List.length_take, HML.out]; omega
      obtain ⟨hs, hhs, ho, hv⟩ := (HO.out.ext (HX1.out.alloc (.cells #[.slice A1 (classesS rows k).length c1'] 22))).add
      rw [hlk] at ho
      have HOWN := Lib.hid ho
      have HV := Lib.hid hv
      have HHS := Lib.hid hhs
      have HLK := Lib.hid hlk
      clear ho hv hhs hlk hval
      go_wp2_with (at_builtin; go_must (refine wpList_app rfl (.tmp 27) (.tmp 31) rfl tiIs rfl HOWN.out rfl (Blk.rd (Blk.new _ _ _)) rfl (by simp [Value.oneCell']) (by omega) (by decide) (by simp; omega) ?_); intro A4 c4 w4 hown4 hg4 hat4)
      go_roundw
      case rel =>
        refine ⟨k + 1, A4, c4, by omega, by go_num, rfl, Ext.grown ((HE.out.trans HX1.out).alloc _) hg4 (fun b hb => (HOWN.out.blk hb).1), ?_⟩
        rw [List.take_succ_eq_append_getElem (by rw [HML.out]; exact hlt), HVAL.out]
        refine OwnIss.push HHS.out HV.out (by rw [HLK.out]; exact hown4) hg4 hat4 hcp1 ((HI1.out.keep (Kept.alloc _ _ _)).mono fun i _ hi => ⟨fun h0 => ?_, ?_⟩)
        · have := (HO.out.blk h0).2
          unfold Fresh at hi
          omega
        · unfold Fresh at hi
          omega
      case measure => simp [intOf]; omega
    · obtain rfl : k = cols.length := by omega
      have hoo := HO.out
      rw [List.take_of_length_le (by rw [HML.out]; exact Nat.le_refl _)] at hoo
      have HRS := Lib.hid (hoo.riss (T := fun _ => True) (by rw [HML.out]; exact hcl) (fun _ _ => trivial) (fun _ _ => trivial))
      clear hoo HO
      go_wp2_with fail
      refine (table_sets cols.length _ hn).mono ?_
      rintro e w1 ⟨A1, c1, rfl, hcp1, hi1, hx1⟩
      have HX1 := Lib.hid hx1
      have HI1 := Lib.hid hi1
      have hsz1 := hx1.size
      have hsl := setsS_len cols.length hn
      clear hx1 hi1
      obtain ⟨sets, hsets⟩ : ∃ s, s = setsS cols.length := ⟨_, rfl⟩
      rw [← hsets] at HI1 hsl HF hcp1
      rw [← hsets]
      have HIN := Lib.hid (show ∀ s ∈ sets, ∀ c ∈ s, 0 ≤ c ∧ c < (cols.length : Int) by rw [hsets]; exact setsS_in _)
      clear hsets
      obtain ⟨wo, rfl⟩ : ∃ wo : World, wo = wr := ⟨_, rfl⟩
      go_wp2
      go_loopw [38, 7, 8] (fun i v u wq => ∃ (k : Nat) (A7 A8 : Option Addr) (c7 c8 : Nat) (ks : List (List Int)) (ds : List Dep), k ≤ sets.length ∧ (ks, ds) = (sets.take k).foldl (keyStep cols rows) ([], []) ∧ i = .int .i64 k ∧ v = .slice A7 ks.length c7 ∧ u = .slice A8 ds.length c8 ∧ Ext w1 wq ∧ ks.length ≤ k ∧ ds.length ≤ k * 1000 ∧ OwnIss wq w1.heap.size (fun b => b < w1.heap.size) A7 c7 ks ∧ OwnDs wq w1.heap.size (fun b => w1.heap.size ≤ b ∧ ob A7 ≠ some b) A8 c8 ds ∧ (∀ b, ob A7 = some b → ob A8 ≠ some b)) (fun i _ _ _ => sets.length - (intOf i).toNat)
      case atStart => exact ⟨0, none, none, 0, 0, [], [], Nat.zero_le _, rfl, rfl, rfl, rfl, Ext.refl _, Nat.zero_le _, Nat.zero_le _, OwnIss.nil _ _ _, OwnDs.nil _ _ _, by simp [ob]⟩
      case round =>
        obtain ⟨k, A7, A8, c7, c8, ks, ds, hk, hst, rfl, rfl, rfl, hext, hkl, hdl, ho7, ho8, hdis⟩ := hrel
        have HST := Lib.hid hst
        have HE2 := Lib.hid hext
        have HO7 := Lib.hid ho7
        have HO8 := Lib.hid ho8
        have HDIS := Lib.hid hdis
        have hszq := hext.size
        clear hst hext ho7 ho8 hdis
        by_cases hlt : k < sets.length
        · obtain ⟨b1, o1, B1, e1, rfl, z1', p1', hcs, his⟩ := HI1.out.at_ hlt
          have p1 := HE2.out.cell p1'
          have z1 : b1 < wr.heap.size := by omega
          have HIS1 := Lib.hid (his.mono (T := fun b => b < w1.heap.size) fun i hi _ => hi)
          have hstep : (sets.take (k + 1)).foldl (keyStep cols rows) ([], []) = keyStep cols rows (ks, ds) sets[k] := by
            rw [List.take_succ_eq_append_getElem hlt, List.foldl_append, ← HST.out]; rfl
          have hmem := List.getElem_mem hlt
          obtain ⟨s, hs⟩ : ∃ s, s = sets[k] := ⟨_, rfl⟩
          rw [← hs] at p1 HIS1 hstep hmem hcs
          have HSTEP := Lib.hid hstep
          have HMEM := Lib.hid hmem
          have HCS := Lib.hid hcs
          have HIS := Lib.hid (HIS1.out.keep (HE2.out.kept _))
          clear p1' his hstep hmem hs hcs
          go_wp2_with fail
          refine (slices_ContainsFuncK ks s A7 B1 c7 e1 wr.heap.size _ (fun _ => True) (fun b => b < w1.heap.size) ((HO7.out.riss (by omega) (fun _ _ => trivial) (fun _ _ => trivial)).keep (Kept.alloc _ _ _)) ((Blk.new wr 22 #[.slice B1 s.length e1]).cell rfl) (HIS.out.keep (Kept.alloc _ _ _))).mono ?_
          rintro e w2 ⟨rfl, hx2⟩
          have hbx := hx2.cell ((Blk.new wr 22 #[.slice B1 s.length e1]).cell (i := 0) rfl)
          have HX2 := Lib.hid (((Ext.refl wr).alloc _).trans hx2)
          have hsz2 : wr.heap.size < w2.heap.size := by have := hx2.size; simp at this; omega
          clear hx2
          cases hany : ks.any (fun l => subI l s)
          case true =>
            have HANY := Lib.hid hany
            clear hany
            go_wp2
            go_roundw
            case rel => exact ⟨k + 1, A7, A8, c7, c8, ks, ds, by omega, by rw [HSTEP.out]; unfold keyStep; rw [if_pos HANY.out], by go_num, rfl, rfl, HE2.out.trans HX2.out, by omega, by omega, HO7.out.ext HX2.out, HO8.out.ext HX2.out, HDIS.out⟩
            case measure => simp [intOf]; omega
          case false =>
            have HANY := Lib.hid (show ¬ (ks.any (fun l => subI l s)) = true by rw [hany]; simp)
            clear hany
            go_wp2_with fail
            refine (table_isKey rows cols.length s B1 _ e1 _ _ (fun b => b < w1.heap.size) (fun _ => True) (HIS.out.keep (HX2.out.kept _)) (HRS.out.keep ((HX1.out.trans (HE2.out.trans HX2.out)).kept _)) (HIN.out s HMEM.out) hrl).mono ?_
            rintro e w3 ⟨rfl, hx3⟩
            have hbx3 := hx3.cell hbx
            have HX3 := Lib.hid (HX2.out.trans hx3)
            have hsz3 : w2.heap.size ≤ w3.heap.size := hx3.size
            clear hx3 hbx
            cases hkey : keyB rows cols.length (s.map Int.toNat)
            · have HKEY := Lib.hid hkey
              clear hkey
              go_wp2
              go_roundw
              case rel => exact ⟨k + 1, A7, A8, c7, c8, ks, ds, by omega, by rw [HSTEP.out]; unfold keyStep; rw [if_neg HANY.out, HKEY.out]; rfl, by go_num, rfl, rfl, HE2.out.trans HX3.out, by omega, by omega, HO7.out.ext HX3.out, HO8.out.ext HX3.out, HDIS.out⟩
              case measure => simp [intOf]; omega
            · have HKEY := Lib.hid (show (keyStep cols rows (ks, ds) s) = (ks ++ [s], ds ++ depsOf cols s cols.length) by unfold keyStep; rw [if_neg HANY.out, hkey]; rfl)
              clear hkey
              obtain ⟨hs7, hhs7, ho7, hv7⟩ := (HO7.out.ext (HX3.out.alloc (.cells #[.slice B1 s.length e1] 22))).add
              have HOWN := Lib.hid ho7
              have HV := Lib.hid hv7
              have HHS := Lib.hid hhs7
              clear ho7 hv7 hhs7
              go_wp2_with (at_builtin; go_must (refine wpList_app rfl (.tmp 51) (.tmp 53) rfl tiIs rfl HOWN.out rfl (Blk.rd (Blk.new _ _ _)) rfl (by simp [Value.oneCell']) (by omega) (by decide) (by simp; omega) ?_); intro A4 c4 w4 hown4 hg4 hat4)
              have h74 : OwnIss w4 w1.heap.size (fun b => b < w1.heap.size) A4 c4 (ks ++ [s]) := by
                refine OwnIss.push HHS.out HV.out hown4 hg4 hat4 HCS.out ((HIS.out.keep ((HX3.out.alloc _).kept _)).mono fun i _ hi => ⟨fun h0 => ?_, hi⟩)
                have := (HO7.out.blk h0).1
                omega
              have h84 : OwnDs w4 w1.heap.size (fun b => w1.heap.size ≤ b ∧ ob A4 ≠ some b) A8 c8 ds := by
                refine OwnDs.mono (X := fun b => (w1.heap.size ≤ b ∧ ob A7 ≠ some b) ∧ ob A4 ≠ some b) ?_ (fun b _ hb => ⟨hb.1.1, hb.2⟩)
                refine OwnDs.keep (w := w3.alloc (.cells #[.slice B1 s.length e1] 22)) ?_ (Kept.of_grown hg4 fun b hb _ e => ?_)
                · refine (HO8.out.ext (HX3.out.alloc _)).mono fun b hb hh => ⟨hh, fun e => ?_⟩
                  rcases hat4 with h | h
                  · rw [h] at e; exact hh.2 e
                  · rw [h] at e; injection e with e; omega
                · rcases hb with h | h
                  · exact HDIS.out b e.symm h
                  · exact h.1.2 e.symm
              have hd4 : ∀ b, ob A4 = some b → ob A8 ≠ some b := by
                intro b h1 h2
                rcases hat4 with h | h
                · rw [h] at h1; exact HDIS.out b h1 h2
                · rw [h] at h1; injection h1 with h1; have := (HO8.out.blk h2).2; simp at h1; omega
              have hbx4 : w4.cell? ⟨wr.heap.size, 0, none⟩ = some (.slice B1 s.length e1) := by
                rw [World.cell?_of_block (hg4.block wr.heap.size (by simp; omega) (fun e => by have := (HO7.out.blk e.symm).2; omega))]
                exact ((Ext.refl w3).alloc _).cell hbx3
              have HX4 := Lib.hid (show Ext w1 w4 from Ext.grown ((HE2.out.trans HX3.out).alloc _) hg4 (fun b hb => (HOWN.out.blk hb).1))
              have hsz4 : w3.heap.size < w4.heap.size := by have := hg4.size; simp at this; omega
              have h8b : ob A8 ≠ some wr.heap.size := fun e => by have := (HO8.out.blk e).2; omega
              have H74 := Lib.hid h74
              have H84 := Lib.hid h84
              have HD4 := Lib.hid hd4
              have HB4 := Lib.hid hbx4
              have H8B := Lib.hid h8b
              clear h74 h84 hd4 hbx4 h8b hown4 hg4 hat4 HOWN HV HHS HO7 HO8 HDIS hbx3
              obtain ⟨wp, rfl⟩ : ∃ wp : World, wp = wr := ⟨_, rfl⟩
              go_wp2
              go_loopw [57, 8] (fun i u wr => ∃ (m : Nat) (A9 : Option Addr) (c9 : Nat) (d9 : List Dep), m ≤ cols.length ∧ d9 = ds ++ depsOf cols s m ∧ i = .int .i64 m ∧ u = .slice A9 d9.length c9 ∧ Ext w1 wr ∧ wp.heap.size < wr.heap.size ∧ wr.cell? ⟨wp.heap.size, 0, none⟩ = some (.slice B1 s.length e1) ∧ ob A9 ≠ some wp.heap.size ∧ d9.length ≤ ds.length + m ∧ OwnIss wr w1.heap.size (fun b => b < w1.heap.size) A4 c4 (ks ++ [s]) ∧ OwnDs wr w1.heap.size (fun b => w1.heap.size ≤ b ∧ ob A4 ≠ some b) A9 c9 d9 ∧ (∀ b, ob A4 = some b → ob A9 ≠ some b)) (fun i _ _ => cols.length - (intOf i).toNat)
              case atStart => exact ⟨0, A8, c8, ds, Nat.zero_le _, by simp [depsOf], rfl, rfl, HX4.out, by omega, HB4.out, H8B.out, by omega, H74.out, H84.out, HD4.out⟩
              case round =>
                clear HX4 HB4 H8B H74 H84 HD4
                obtain ⟨m, A9, c9, d9, hm, hd9, rfl, rfl, hx9, hsz9, hbx9, h9b, hl9, h79, h99, hd99⟩ := hrel
                have HD9 := Lib.hid hd9
                have HX9 := Lib.hid hx9
                have H9B := Lib.hid h9b
                have H79 := Lib.hid h79
                have H99 := Lib.hid h99
                have HD99 := Lib.hid hd99
                have hsz19 := hx9.size
                clear hd9 hx9 h9b h79 h99 hd99
                by_cases hltm : m < cols.length
                · obtain ⟨b2, o2, rfl, z2, p2⟩ := (HA.out.keep ((HE.out.trans (HX1.out.trans HX9.out)).kept S)).at_ hltm
                  cases hmm : memI s (m : Int)
                  · have HMM := Lib.hid hmm
                    clear hmm
                    go_wp2_with (go_at_call 86; refine (slices_ContainsI _ _ s _ _ (fun b => b < w1.heap.size) (HIS1.out.keep (HX9.out.kept _))).mono ?_; rintro e w' ⟨rfl, rfl⟩; rw [HMM.out])
                    refine (table_names cols s _ _ _ _ _ S (fun b => b < w1.heap.size) (HA.out.keep ((HE.out.trans (HX1.out.trans HX9.out)).kept S)) (HIS1.out.keep (HX9.out.kept _)) (HIN.out s HMEM.out)).mono ?_
                    rintro e w5 ⟨A5, c5, rfl, hcp5, hss5, hx5⟩
                    have HX5 := Lib.hid hx5
                    have HSS5 := Lib.hid hss5
                    have HCP5 := Lib.hid hcp5
                    have hsz5 := hx5.size
                    obtain ⟨hs9, hhs9, ho9, hv9⟩ := (H99.out.ext (HX5.out.alloc (.cells #[.slice A5 (namesS cols s).length c5, .string cols[m]] 52))).add
                    have HOWN := Lib.hid ho9
                    have HV := Lib.hid hv9
                    have HHS := Lib.hid hhs9
                    clear ho9 hv9 hhs9 hx5 hss5 hcp5
                    go_wp2_with (at_builtin; go_must (refine wpList_app rfl (.tmp 66) (.tmp 72) rfl tiD rfl HOWN.out rfl (Blk.rd (Blk.new _ _ _)) rfl (by simp [Value.oneCell']) (by omega) (by decide) (by simp; omega) ?_); intro A6 c6 w6 hown6 hg6 hat6)
                    go_roundw
                    case rel =>
                      have h9lt : ∀ b, ob A9 = some b → b < wr.heap.size := fun b hb => (H99.out.blk hb).2
                      have h4lt : ∀ b, ob A4 = some b → w1.heap.size ≤ b ∧ b < wr.heap.size := fun b hb => H79.out.blk hb
                      refine ⟨m + 1, A6, c6, d9 ++ [⟨namesS cols s, cols[m]⟩], by omega, ?_, by go_num, by simp, Ext.grown ((HX9.out.trans HX5.out).alloc _) hg6 (fun b hb => (HOWN.out.blk hb).1), by have := hg6.size; simp at this; omega, ?_, ?_, by simp; omega, ?_, ?_, ?_⟩
                      · rw [HD9.out, depsOf_succ, HMM.out, List.append_assoc]
                        simp [hltm]
                      · rw [World.cell?_of_block (hg6.block wp.heap.size (by simp; omega) (fun e => H9B.out e.symm))]
                        exact (HX5.out.alloc _).cell hbx9
                      · intro e
                        rcases hat6 with h | h
                        · rw [h] at e; exact H9B.out e
                        · rw [h] at e; injection e with e; simp at e; omega
                      · exact (H79.out.ext (HX5.out.alloc _)).keep (Kept.of_grown hg6 fun b hb _ e => by
                          rcases hb with h | h
                          · exact HD99.out b h e.symm
                          · have := (H99.out.blk e.symm).1; omega)
                      · refine OwnDs.push HHS.out HV.out hown6 hg6 hat6 HCP5.out (HA.out.2.2 _ (List.getElem_mem hltm)) ((HSS5.out.keep (Kept.alloc _ _ _)).mono fun i _ hi => ?_)
                        unfold Fresh at hi
                        exact ⟨fun e => by have := h9lt i e; omega, by omega, fun e => by have := (h4lt i e).2; omega⟩
                      · intro b h1 h2
                        rcases hat6 with h | h
                        · rw [h] at h2; exact HD99.out b h1 h2
                        · rw [h] at h2; injection h2 with h2; have := (h4lt b h1).2; simp at h2; omega
                    case measure => simp [intOf]; omega
                  · have HMM := Lib.hid hmm
                    clear hmm
                    go_wp2_with (go_at_call 86; refine (slices_ContainsI _ _ s _ _ (fun b => b < w1.heap.size) (HIS1.out.keep (HX9.out.kept _))).mono ?_; rintro e w' ⟨rfl, rfl⟩; rw [HMM.out])
                    go_roundw
                    case rel => exact ⟨m + 1, A9, c9, d9, by omega, by rw [HD9.out, depsOf_succ, HMM.out]; simp, by go_num, rfl, HX9.out, hsz9, hbx9, H9B.out, by omega, H79.out, H99.out, HD99.out⟩
                    case measure => simp [intOf]; omega
                · obtain rfl : m = cols.length := by omega
                  go_wp2
                  go_roundw
                  case rel => exact ⟨k + 1, A4, A9, c4, c9, ks ++ [s], d9, by omega, by rw [HSTEP.out, HKEY.out, HD9.out], by go_num, by simp, rfl, HX9.out, by simp; omega, by omega, H79.out, H99.out, HD99.out⟩
                  case measure => simp [intOf]; omega
        · obtain rfl : k = sets.length := by omega
          have hde : ds = keysS cols rows := by
            have := HST.out
            rw [List.take_of_length_le (Nat.le_refl _)] at this
            rw [HF.out, ← this]
          subst hde
          have HC := Lib.hid (show (keysS cols rows).length ≤ c8 by obtain ⟨hs, _, h1, _⟩ := HO8.out.add; exact h1.cap)
          go_wp2
          go_ret
          exact ⟨A8, c8, rfl, HC.out, HO8.out.rdeps (by omega) (fun b hb => by have := (HO8.out.blk hb).1; unfold Fresh; omega) (fun b hb => by unfold Fresh; omega), HE.out.trans (HX1.out.trans HE2.out)⟩
end Go.Proofs.YtcmmkeiiapbgcaaGreatDoor
