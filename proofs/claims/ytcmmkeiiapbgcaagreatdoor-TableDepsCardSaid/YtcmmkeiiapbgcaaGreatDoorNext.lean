/- The reference's reader of numbers: Next. Conditions: the numbers read as data, and lie apart from the reader. -/
import Derived.Test.YtcmmkeiiapbgcaaGreatDoorLin2
import Derived.IntWalk
namespace Go.Proofs.YtcmmkeiiapbgcaaGreatDoor
open Go Go.RowKit

theorem Only.drew {g : Nat} {w w' : World} (h : Only g w w') : Only g w w'.drew := ⟨h.os, h.tape, h.output, h.size, h.block⟩
theorem Only.drewN {g : Nat} {w w' : World} (h : Only g w w') (n : Nat) : Only g w (w'.drewN n) := ⟨h.os, h.tape, h.output, h.size, h.block⟩
theorem Only.trans {g : Nat} {w w' w'' : World} (h : Only g w w') (k : Only g w' w'') : Only g w w'' := ⟨k.os.trans h.os, k.tape.trans h.tape, k.output.trans h.output, k.size.trans h.size, fun b hb => (k.block b hb).trans (h.block b hb)⟩
theorem Only.kept {g : Nat} {w w' : World} (h : Only g w w') {S : Nat → Prop} (hS : ∀ b, b < w.heap.size → S b → b ≠ g) : Kept S w w' := ⟨Nat.le_of_eq h.size.symm, fun b hb hl => h.block b (hS b hl hb)⟩
theorem Only.below {g B : Nat} {w w' : World} (h : Only g w w') (hB : B ≤ g) : Below B w w' := ⟨h.os, h.tape, h.output, Nat.le_of_eq h.size.symm, fun b hb => h.block b (by omega)⟩
theorem Ext.only {g : Nat} {a w w' : World} (h : Ext a w) (k : Only g w w') (hg : a.heap.size ≤ g) : Ext a w' := Below.trans h (k.below hg)
/-- Ints that came in: as many as memory holds. -/
def IntsL (w : World) (S : Nat → Prop) (A : Option Addr) (l : List Int) : Prop := Rd w S A (l.map (Value.int .i64)) ∧ l.length ≤ 9223372036854775807
theorem IntsL.keep {w w' : World} {S : Nat → Prop} {A : Option Addr} {l : List Int} (h : IntsL w S A l) (k : Kept S w w') : IntsL w' S A l := ⟨h.1.keep k, h.2⟩
theorem IntsL.mono {w : World} {S T : Nat → Prop} {A : Option Addr} {l : List Int} (h : IntsL w S A l) (k : ∀ i, i < w.heap.size → S i → T i) : IntsL w T A l := ⟨h.1.mono k, h.2⟩
theorem IntsL.at_ {w : World} {S : Nat → Prop} {A : Option Addr} {l : List Int} (h : IntsL w S A l) {k : Nat} (hk : k < l.length) : ∃ b o, A = some ⟨b, o, none⟩ ∧ b < w.heap.size ∧ w.cell? ⟨b, o + k, none⟩ = some (.int .i64 l[k]) :=
  h.1.at_ (by simp [hk])
/-- Rows of ints that came in. -/
def RIssL (w : World) (S : Nat → Prop) (A : Option Addr) (l : List (List Int)) : Prop :=
  l.length ≤ 9223372036854775807 ∧ ∃ hs : List Value, Rd w S A hs ∧ hs.length = l.length ∧ ∀ (i : Nat) (r : List Int), l[i]? = some r → ∃ (B : Option Addr) (e : Nat), hs[i]? = some (.slice B r.length e) ∧ r.length ≤ e ∧ IntsL w S B r
theorem RIssL.keep {w w' : World} {S : Nat → Prop} {A : Option Addr} {l : List (List Int)} (h : RIssL w S A l) (k : Kept S w w') : RIssL w' S A l := by
  obtain ⟨h0, hs, h1, h2, h3⟩ := h
  refine ⟨h0, hs, h1.keep k, h2, fun i r hr => ?_⟩
  obtain ⟨B, e, g1, g2, g3⟩ := h3 i r hr
  exact ⟨B, e, g1, g2, g3.keep k⟩
theorem RIssL.at_ {w : World} {S : Nat → Prop} {A : Option Addr} {l : List (List Int)} (h : RIssL w S A l) {k : Nat} (hk : k < l.length) :
    ∃ b o B e, A = some ⟨b, o, none⟩ ∧ b < w.heap.size ∧ w.cell? ⟨b, o + k, none⟩ = some (.slice B l[k].length e) ∧ l[k].length ≤ e ∧ IntsL w S B l[k] := by
  obtain ⟨_, hs, h1, h2, h3⟩ := h
  obtain ⟨B, e, g1, g2, g3⟩ := h3 k l[k] (List.getElem?_eq_getElem hk)
  obtain ⟨b, o, hA, hb, hc⟩ := h1.at_ g1
  exact ⟨b, o, B, e, hA, hb, hc, g2, g3⟩
/-- The reader: its numbers, and how many were read. -/
def NumIs (w : World) (g : Nat) (A : Option Addr) (n c K : Nat) : Prop := Blk w g 73 #[.slice A n c, .int .i64 (K : Int)] ∧ K ≤ n
theorem NumIs.keep {w w' : World} {g : Nat} {A : Option Addr} {n c K : Nat} (h : NumIs w g A n c K) (k : Kept (fun b => b = g) w w') : NumIs w' g A n c K := ⟨h.1.keep k, h.2⟩
def RetN (w : World) (g : Nat) (A : Option Addr) (len c : Nat) (n : Int) (e : Ending) (w' : World) : Prop := ∃ (r : Int) (K : Nat), e = .returned (.int .i64 r) ∧ 0 ≤ r ∧ r < n ∧ NumIs w' g A len c K ∧ Only g w w'
theorem next_bd (a n : Int) (hn : 1 ≤ n) : -n < a.tmod n ∧ a.tmod n < n := by
  have h1 := Int.tmod_lt_of_pos a (b := n) (by omega)
  have h2 := Int.tmod_lt_of_pos (-a) (b := n) (by omega)
  rw [Int.neg_tmod] at h2
  omega
theorem next_r (a n : Int) (hn : 1 ≤ n) : 0 ≤ (a.tmod n + n).tmod n ∧ (a.tmod n + n).tmod n < n := by
  obtain ⟨h1, h2⟩ := next_bd a n hn
  rw [Int.tmod_eq_emod_of_nonneg (by omega)]
  exact ⟨Int.emod_nonneg _ (by omega), Int.emod_lt_of_pos _ (by omega)⟩
set_option maxRecDepth 100000 in
set_option maxHeartbeats 400000 in
theorem Num_Next (n : Int) (g : Nat) (A : Option Addr) (l : List Int) (c K : Nat) (w : World) (S : Nat → Prop) (hn1 : 1 ≤ n) (hn2 : n ≤ 4000000000000000) (hm : NumIs w g A l.length c K) (hl : IntsL w S A l) (hS : ¬ S g) :
    Calls Tryz.prog 42 #[.pointer (some ⟨g, 0, none⟩), .int .i64 n] w (RetN w g A l.length c n) := by
  have hlen := hl.2
  have hK := hm.2
  have k0 := hm.1.cell (i := 0) rfl
  have k1 := hm.1.cell (i := 1) rfl
  have kf := hm.1.frozen
  have kz := hm.1.lt
  have HM := Lib.hid hm
  have HL := Lib.hid hl
  clear hm hl
  by_cases hlt : K < l.length
  · obtain ⟨b, o, rfl, hb, hc⟩ := HL.out.at_ hlt
    have hbg : b ≠ g := by
      rcases HL.out.1 with h | ⟨b', o', h1, h2, _⟩
      · rw [List.map_eq_nil_iff] at h; subst h; simp at hlt
      · injection h1 with h1; injection h1 with h1; subst h1; rintro rfl; exact hS h2
    have hge : decide (l.length ≤ K) = false := by simpa using hlt
    have hnn : decide (n < 1) = false := by simpa using hn1
    obtain ⟨r1, r2⟩ := next_r l[K] n hn1
    obtain ⟨b1, b2⟩ := next_bd l[K] n hn1
    go_enter Tryz.func42, Tryz.ntmps42
    go_wp2
    go_quiet (fail)
    go_wp2
    obtain ⟨w2, hw2⟩ : ∃ w2, w2 = (w.drewN nq).setCell ⟨g, 1, none⟩ (.int .i64 ((K : Int) + 1)) := ⟨_, rfl⟩
    rw [← hw2]
    have ho : Only g w w2 := by rw [hw2]; exact ((Only.refl g w).drewN nq).set _ _
    have hb2 : Blk w2 g 73 #[.slice (some ⟨b, o, none⟩) l.length c, .int .i64 ((K : Int) + 1)] := by
      rw [hw2]
      exact (HM.out.1.keep (Kept.drewN _ _ _)).set 1 _
    have hc2 : w2.cell? ⟨b, o + K, none⟩ = some (.int .i64 l[K]) := (World.cell?_of_block (w := w) (ho.block b hbg)).trans hc
    clear hw2 k0 k1 kf hc
    have k0 := hb2.cell (i := 0) rfl
    have k1 := hb2.cell (i := 1) rfl
    have HO := Lib.hid ho
    have HB2 := Lib.hid hb2
    clear ho hb2 HM HL
    have q1 : IntKind.i64.wrap ((K : Int) + 1 - 1) = (K : Int) := by rw [IntWalk.i64_in _ (by omega)]; omega
    have q2 : (0 : Int) ≤ (K : Int) := by omega
    have q3 : (K : Int) < (l.length : Int) := by omega
    have q4 : IntKind.i64.wrap (l[K].tmod n) = l[K].tmod n := IntWalk.i64_in _ (by omega)
    have q5 : IntKind.i64.wrap (l[K].tmod n + n) = l[K].tmod n + n := IntWalk.i64_in _ (by omega)
    have q6 : IntKind.i64.wrap ((l[K].tmod n + n).tmod n) = (l[K].tmod n + n).tmod n := IntWalk.i64_in _ (by omega)
    have q7 : (n == 0) = false := by simp; omega
    go_quiet (fail)
    go_wp2
    go_ret
    refine ⟨_, K + 1, rfl, Int.emod_nonneg _ (by omega), Int.emod_lt_of_pos _ (by omega), ⟨?_, by omega⟩, HO.out.drewN _⟩
    have := fun m => HB2.out.keep (w' := w2.drewN m) (Kept.drewN _ _ _)
    rw [show (((K + 1 : Nat)) : Int) = (K : Int) + 1 by omega]
    exact this _
  · have hge : decide (l.length ≤ K) = true := by simpa using hlt
    clear hlt
    go_enter Tryz.func42, Tryz.ntmps42
    go_wp2
    go_quiet (fail)
    go_wp2
    go_ret
    exact ⟨0, K, rfl, Int.le_refl _, by omega, HM.out.keep (Kept.drewN _ _ _), (Only.refl g w).drewN _⟩
end Go.Proofs.YtcmmkeiiapbgcaaGreatDoor
