/- The words of memory and of data that all walks of this seat use: a value of the program (Val), slices that read as lists, with the blocks in which they lie. No conditions. -/
import Derived.Test.YtcmmkeiiapbgcaaGreatDoorProg
import Derived.Tactics
import Derived.Tactics2
import Derived.WalkKit
import Derived.LoopTactic
import Derived.RegionTactic
import Derived.Deep.QuietTactic
import Derived.BigQuiet
import Derived.Below
import Derived.Laws.OwnMore
import Derived.Deep.AppendLies
import Derived.Deep.Draws
import Derived.Deep.RegionHeld3
import Derived.StillTailTactics
import Derived.Maps.AppendAt
import Derived.OwnWalk
import Derived.Outline
import Derived.KernelRfl
import Derived.Lib.Hide
namespace Go.Proofs.YtcmmkeiiapbgcaaGreatDoor
open Go Go.RowKit

/-- A value of the program: kind, text, number (units, scale), day or bool, columns, rows. -/
structure Val where
  kind : Int
  s : ByteArray
  dn : Int
  ds : Int
  n : Int
  cols : List ByteArray
  rows : List (List Val)

mutual
def Val.beqV : Val → Val → Bool
  | ⟨k, s, a, b, n, c, r⟩, ⟨k', s', a', b', n', c', r'⟩ => decide (k = k') && decide (s = s') && decide (a = a') && decide (b = b') && decide (n = n') && decide (c = c') && Val.beqRs r r'
def Val.beqRs : List (List Val) → List (List Val) → Bool
  | [], [] => true
  | x :: l, y :: m => Val.beqR x y && Val.beqRs l m
  | _, _ => false
def Val.beqR : List Val → List Val → Bool
  | [], [] => true
  | x :: l, y :: m => Val.beqV x y && Val.beqR l m
  | _, _ => false
 end
mutual
theorem Val.beqV_eq : ∀ x y : Val, Val.beqV x y = true ↔ x = y
  | ⟨k, s, a, b, n, c, r⟩, ⟨k', s', a', b', n', c', r'⟩ => by
    have := Val.beqRs_eq r r'
    simp [Val.beqV, this, and_assoc]
theorem Val.beqRs_eq : ∀ x y : List (List Val), Val.beqRs x y = true ↔ x = y
  | [], [] => by simp [Val.beqRs]
  | [], _ :: _ => by simp [Val.beqRs]
  | _ :: _, [] => by simp [Val.beqRs]
  | x :: l, y :: m => by
    have h1 := Val.beqR_eq x y
    have h2 := Val.beqRs_eq l m
    simp [Val.beqRs, h1, h2]
theorem Val.beqR_eq : ∀ x y : List Val, Val.beqR x y = true ↔ x = y
  | [], [] => by simp [Val.beqR]
  | [], _ :: _ => by simp [Val.beqR]
  | _ :: _, [] => by simp [Val.beqR]
  | x :: l, y :: m => by
    have h1 := Val.beqV_eq x y
    have h2 := Val.beqR_eq l m
    simp [Val.beqR, h1, h2]
 end
instance : DecidableEq Val := fun x y => decidable_of_iff _ (Val.beqV_eq x y)

/-- The world has grown: what was there is as it was. -/
def Ext (w w' : World) : Prop := Below w.heap.size w w'
theorem Ext.refl (w : World) : Ext w w := Below.refl _ _
theorem Ext.trans {a b c : World} (h : Ext a b) (k : Ext b c) : Ext a c := Below.trans h (Below.mono k h.size)
theorem Ext.drew {a b : World} (h : Ext a b) : Ext a b.drew := Below.drew h
theorem Ext.drewN {a b : World} (h : Ext a b) (n : Nat) : Ext a (b.drewN n) := ⟨h.os, h.tape, h.output, h.size, h.block⟩
theorem Ext.alloc {a b : World} (h : Ext a b) (o : Obj) : Ext a (b.alloc o) := Below.alloc h h.size o
theorem Ext.setCell {a b : World} (h : Ext a b) {p : Addr} (hp : a.heap.size ≤ p.block) (u : Value) : Ext a (b.setCell p u) := Below.setCell h hp u
theorem Ext.grown {a b c : World} {row : Option Nat} (h : Ext a b) (hg : b.grownBy c row) (hr : ∀ k, row = some k → a.heap.size ≤ k) : Ext a c := Below.grown h hg h.size hr
theorem Ext.mono {w w' : World} (h : Ext w w') {B : Nat} (hB : B ≤ w.heap.size) : Below B w w' := Below.mono h hB
theorem Ext.cell {w w' : World} (h : Ext w w') {p : Addr} {u : Value} (hc : w.cell? p = some u) : w'.cell? p = some u := by
  have hp : p.block < w.heap.size := by
    unfold World.cell? at hc
    rcases Nat.lt_or_ge p.block w.heap.size with h1 | h1
    · exact h1
    · rw [Array.getElem?_eq_none h1] at hc; cases hc
  rw [Below.cell h hp]; exact hc

/-- Blocks of S are as they were. -/
def Kept (S : Nat → Prop) (w w' : World) : Prop := w.heap.size ≤ w'.heap.size ∧ ∀ b, S b → b < w.heap.size → w'.heap[b]? = w.heap[b]?
theorem Ext.kept {w w' : World} (h : Ext w w') (S : Nat → Prop) : Kept S w w' := ⟨h.size, fun b _ hb => h.block b hb⟩
theorem Kept.refl (S : Nat → Prop) (w : World) : Kept S w w := ⟨Nat.le_refl _, fun _ _ _ => rfl⟩
theorem Kept.drew (S : Nat → Prop) (w : World) : Kept S w w.drew := ⟨Nat.le_refl _, fun _ _ _ => rfl⟩
theorem Kept.drewN (S : Nat → Prop) (w : World) (n : Nat) : Kept S w (w.drewN n) := ⟨Nat.le_refl _, fun _ _ _ => rfl⟩
theorem Kept.alloc (S : Nat → Prop) (w : World) (o : Obj) : Kept S w (w.alloc o) := ((Ext.refl w).alloc o).kept S
theorem Kept.trans {S : Nat → Prop} {a b c : World} (h : Kept S a b) (k : Kept S b c) : Kept S a c :=
  ⟨Nat.le_trans h.1 k.1, fun i hi hl => (k.2 i hi (Nat.lt_of_lt_of_le hl h.1)).trans (h.2 i hi hl)⟩
theorem Kept.mono {S T : Nat → Prop} {a b : World} (h : Kept S a b) (k : ∀ i, i < a.heap.size → T i → S i) : Kept T a b := ⟨h.1, fun i hi hl => h.2 i (k i hl hi) hl⟩
theorem Kept.of_grown {w w' : World} {row : Option Nat} {S : Nat → Prop} (h : w.grownBy w' row) (hS : ∀ b, S b → b < w.heap.size → some b ≠ row) : Kept S w w' :=
  ⟨h.size, fun b hb hl => h.block b hl (hS b hb hl)⟩
theorem Kept.of_set {w : World} {p : Addr} {u : Value} {S : Nat → Prop} (hS : ¬ S p.block) : Kept S w (w.setCell p u) :=
  ⟨by simp [World.setCell], fun b hb _ => Below.heap_setCell w p u b (fun e => hS (e ▸ hb))⟩
theorem Kept.set2 {w w' : World} {g i : Nat} {u : Value} {S : Nat → Prop} (h : Kept S w w') (hS : ¬ S g) : Kept S w (w'.setCell ⟨g, i, none⟩ u) := h.trans (Kept.of_set hS)
theorem Ext.set2 {a b : World} (h : Ext a b) {g i : Nat} (hp : a.heap.size ≤ g) (u : Value) : Ext a (b.setCell ⟨g, i, none⟩ u) := h.setCell hp u

/-- A slice reads as these cells, in a block of S. -/
def Rd (w : World) (S : Nat → Prop) (A : Option Addr) (xs : List Value) : Prop :=
  xs = [] ∨ ∃ b o, A = some ⟨b, o, none⟩ ∧ S b ∧ b < w.heap.size ∧ ∀ j u, xs[j]? = some u → w.cell? ⟨b, o + j, none⟩ = some u
section
variable {w w' : World} {S T : Nat → Prop} {A : Option Addr} {xs : List Value}
theorem Rd.nil : Rd w S A [] := Or.inl rfl
theorem Rd.keep (h : Rd w S A xs) (k : Kept S w w') : Rd w' S A xs := by
  rcases h with h | ⟨b, o, h1, h2, h3, h4⟩
  · exact Or.inl h
  · exact Or.inr ⟨b, o, h1, h2, Nat.lt_of_lt_of_le h3 k.1, fun j u hj => (World.cell?_of_block (w := w) (k.2 b h2 h3)).trans (h4 j u hj)⟩
theorem Rd.mono (h : Rd w S A xs) (k : ∀ i, i < w.heap.size → S i → T i) : Rd w T A xs := by
  rcases h with h | ⟨b, o, h1, h2, h3, h4⟩
  · exact Or.inl h
  · exact Or.inr ⟨b, o, h1, k b h3 h2, h3, h4⟩
theorem Rd.at_ (h : Rd w S A xs) {k : Nat} {u : Value} (hk : xs[k]? = some u) : ∃ b o, A = some ⟨b, o, none⟩ ∧ b < w.heap.size ∧ w.cell? ⟨b, o + k, none⟩ = some u := by
  rcases h with h | ⟨b, o, h1, _, h3, h4⟩
  · subst h; simp at hk
  · exact ⟨b, o, h1, h3, h4 k u hk⟩
theorem Rd.some_ (h : Rd w S A xs) (hk : xs ≠ []) : ∃ b o, A = some ⟨b, o, none⟩ ∧ S b ∧ b < w.heap.size ∧ ∀ j u, xs[j]? = some u → w.cell? ⟨b, o + j, none⟩ = some u := by
  rcases h with h | h
  · exact absurd h hk
  · exact h
theorem Rd.of_own {base e sz n c : Nat} (h : w.ownsRow base e sz (.slice A n c) n xs) : Rd w (fun b => base ≤ b) A xs := by
  rcases h.2 with ⟨hv, hn⟩ | ⟨g, cap, cur, hv, hb, hh, hnc, hcm, hcs, ht⟩
  · left
    have := h.1
    rw [hn] at this
    exact List.eq_nil_of_length_eq_zero (by simpa using this)
  · right
    have hA : A = some ⟨g, 0, none⟩ := by injection hv
    have hlt : g < w.heap.size := by
      rcases Nat.lt_or_ge g w.heap.size with h1 | h1
      · exact h1
      · rw [Array.getElem?_eq_none h1] at hh; cases hh
    refine ⟨g, 0, hA, hb, hlt, fun j u hj => ?_⟩
    have := h.cells (g := g) (by rw [hA]; rfl) j u hj
    simpa [Addr.add_lit] using this
theorem Rd.take (h : Rd w S A xs) (k : Nat) : Rd w S A (xs.take k) := by
  rcases h with h | ⟨b, o, h1, h2, h3, h4⟩
  · subst h; simp [Rd]
  · refine Or.inr ⟨b, o, h1, h2, h3, fun j u hj => h4 j u ?_⟩
    rw [List.getElem?_take] at hj
    split at hj
    · exact hj
    · cases hj
end

/-- Texts in memory. -/
def Strs (w : World) (S : Nat → Prop) (A : Option Addr) (l : List ByteArray) : Prop :=
  Rd w S A (l.map Value.string) ∧ l.length ≤ 4294967296 ∧ ∀ s ∈ l, s.size ≤ 4294967296
/-- Ints in memory. -/
def Ints (w : World) (S : Nat → Prop) (A : Option Addr) (l : List Int) : Prop :=
  Rd w S A (l.map (Value.int .i64)) ∧ l.length ≤ 4294967296
/-- The seven cells of a value. -/
def vcells (x : Val) (A : Option Addr) (c : Nat) (B : Option Addr) (e : Nat) : List Value :=
  [.int .i64 x.kind, .string x.s, .int .i64 x.dn, .int .i64 x.ds, .int .i64 x.n, .slice A x.cols.length c, .slice B x.rows.length e]
/-- Values of a row in memory; R: what is asked of each. -/
def RVs (R : Val → List Value → Prop) (w : World) (S : Nat → Prop) (A : Option Addr) (l : List Val) : Prop :=
  l.length ≤ 4294967296 ∧ ∃ xs : List Value, Rd w S A xs ∧ xs.length = l.length * 7 ∧ ∀ (j : Nat) (y : Val), l[j]? = some y → R y ((xs.drop (j * 7)).take 7)
/-- Rows in memory. -/
def RRs (R : Val → List Value → Prop) (w : World) (S : Nat → Prop) (A : Option Addr) (l : List (List Val)) : Prop :=
  l.length ≤ 4294967296 ∧ ∃ hs : List Value, Rd w S A hs ∧ hs.length = l.length ∧ ∀ (i : Nat) (r : List Val), l[i]? = some r → ∃ (B : Option Addr) (e : Nat), hs[i]? = some (Value.slice B r.length e) ∧ r.length ≤ e ∧ RVs R w S B r
/-- A value whose columns lie at A, its rows at B; d bounds how deep tables lie in tables. -/
def RV (w : World) (S : Nat → Prop) : Nat → Val → Option Addr → Option Addr → Prop
  | 0, x, A, B => x.s.size ≤ 4294967296 ∧ Strs w S A x.cols ∧ RRs (fun _ _ => False) w S B x.rows
  | d + 1, x, A, B => x.s.size ≤ 4294967296 ∧ Strs w S A x.cols ∧ RRs (fun y cs => ∃ A c B e, cs = vcells y A c B e ∧ (y.cols.length ≤ c ∧ y.rows.length ≤ e) ∧ RV w S d y A B) w S B x.rows
/-- Rows of values of a depth below d. -/
def Rows (w : World) (S : Nat → Prop) (d : Nat) (B : Option Addr) (l : List (List Val)) : Prop :=
  RRs (fun y cs => ∃ A c B e, cs = vcells y A c B e ∧ (0 < d ∧ y.cols.length ≤ c ∧ y.rows.length ≤ e) ∧ RV w S (d - 1) y A B) w S B l
/-- A row of values of a depth below d. -/
def Row (w : World) (S : Nat → Prop) (d : Nat) (B : Option Addr) (l : List Val) : Prop :=
  RVs (fun y cs => ∃ A c B e, cs = vcells y A c B e ∧ (0 < d ∧ y.cols.length ≤ c ∧ y.rows.length ≤ e) ∧ RV w S (d - 1) y A B) w S B l

section
variable {w w' : World} {S T : Nat → Prop} {A B : Option Addr} {d : Nat} {x : Val}
theorem Strs.keep {l : List ByteArray} (h : Strs w S A l) (k : Kept S w w') : Strs w' S A l := ⟨h.1.keep k, h.2⟩
theorem Strs.mono {l : List ByteArray} (h : Strs w S A l) (k : ∀ i, i < w.heap.size → S i → T i) : Strs w T A l := ⟨h.1.mono k, h.2⟩
theorem Strs.at_ {l : List ByteArray} (h : Strs w S A l) {k : Nat} (hk : k < l.length) : ∃ b o, A = some ⟨b, o, none⟩ ∧ b < w.heap.size ∧ w.cell? ⟨b, o + k, none⟩ = some (.string l[k]) :=
  h.1.at_ (by simp [hk])
theorem Strs.sz {l : List ByteArray} (h : Strs w S A l) {k : Nat} (hk : k < l.length) : l[k].size ≤ 4294967296 := h.2.2 _ (List.getElem_mem hk)
theorem Strs.nil : Strs w S A [] := ⟨Or.inl rfl, by simp, by simp⟩
theorem Ints.keep {l : List Int} (h : Ints w S A l) (k : Kept S w w') : Ints w' S A l := ⟨h.1.keep k, h.2⟩
theorem Ints.mono {l : List Int} (h : Ints w S A l) (k : ∀ i, i < w.heap.size → S i → T i) : Ints w T A l := ⟨h.1.mono k, h.2⟩
theorem Ints.at_ {l : List Int} (h : Ints w S A l) {k : Nat} (hk : k < l.length) : ∃ b o, A = some ⟨b, o, none⟩ ∧ b < w.heap.size ∧ w.cell? ⟨b, o + k, none⟩ = some (.int .i64 l[k]) :=
  h.1.at_ (by simp [hk])
theorem Ints.nil : Ints w S A [] := ⟨Or.inl rfl, by simp⟩
theorem RVs.imp {R R' : Val → List Value → Prop} {l : List Val} (h : RVs R w S A l) (f : ∀ y cs, R y cs → R' y cs) : RVs R' w S A l := by
  obtain ⟨h0, xs, h1, h2, h3⟩ := h
  exact ⟨h0, xs, h1, h2, fun j y hj => f _ _ (h3 j y hj)⟩
theorem RRs.imp {R R' : Val → List Value → Prop} {l : List (List Val)} (h : RRs R w S A l) (f : ∀ y cs, R y cs → R' y cs) : RRs R' w S A l := by
  obtain ⟨h0, xs, h1, h2, h3⟩ := h
  refine ⟨h0, xs, h1, h2, fun j y hj => ?_⟩
  obtain ⟨B, e, hb, hcp, hr⟩ := h3 j y hj
  exact ⟨B, e, hb, hcp, hr.imp f⟩
theorem RVs.keep {R : Val → List Value → Prop} {l : List Val} (h : RVs R w S A l) (k : Kept S w w') : RVs R w' S A l := by
  obtain ⟨h0, xs, h1, h2, h3⟩ := h
  exact ⟨h0, xs, h1.keep k, h2, h3⟩
theorem RVs.mono {R : Val → List Value → Prop} {l : List Val} (h : RVs R w S A l) (k : ∀ i, i < w.heap.size → S i → T i) : RVs R w T A l := by
  obtain ⟨h0, xs, h1, h2, h3⟩ := h
  exact ⟨h0, xs, h1.mono k, h2, h3⟩
theorem RRs.keep {R : Val → List Value → Prop} {l : List (List Val)} (h : RRs R w S A l) (k : Kept S w w') : RRs R w' S A l := by
  obtain ⟨h0, xs, h1, h2, h3⟩ := h
  refine ⟨h0, xs, h1.keep k, h2, fun j y hj => ?_⟩
  obtain ⟨B, e, hb, hcp, hr⟩ := h3 j y hj
  exact ⟨B, e, hb, hcp, hr.keep k⟩
theorem RRs.mono {R : Val → List Value → Prop} {l : List (List Val)} (h : RRs R w S A l) (k : ∀ i, i < w.heap.size → S i → T i) : RRs R w T A l := by
  obtain ⟨h0, xs, h1, h2, h3⟩ := h
  refine ⟨h0, xs, h1.mono k, h2, fun j y hj => ?_⟩
  obtain ⟨B, e, hb, hcp, hr⟩ := h3 j y hj
  exact ⟨B, e, hb, hcp, hr.mono k⟩
theorem RV.keep (h : RV w S d x A B) (k : Kept S w w') : RV w' S d x A B := by
  induction d generalizing x A B with
  | zero => exact ⟨h.1, h.2.1.keep k, h.2.2.keep k⟩
  | succ d ih =>
    refine ⟨h.1, h.2.1.keep k, (h.2.2.keep k).imp ?_⟩
    rintro y cs ⟨A, c, B, e, rfl, hcp, hy⟩
    exact ⟨A, c, B, e, rfl, hcp, ih hy⟩
theorem RV.mono (h : RV w S d x A B) (k : ∀ i, i < w.heap.size → S i → T i) : RV w T d x A B := by
  induction d generalizing x A B with
  | zero => exact ⟨h.1, h.2.1.mono k, h.2.2.mono k⟩
  | succ d ih =>
    refine ⟨h.1, h.2.1.mono k, (h.2.2.mono k).imp ?_⟩
    rintro y cs ⟨A, c, B, e, rfl, hcp, hy⟩
    exact ⟨A, c, B, e, rfl, hcp, ih hy⟩
theorem RV.size (h : RV w S d x A B) : x.s.size ≤ 4294967296 := by cases d <;> exact h.1
theorem RV.strs (h : RV w S d x A B) : Strs w S A x.cols := by cases d <;> exact h.2.1
theorem RV.rows_ (h : RV w S d x A B) : Rows w S d B x.rows := by
  cases d with
  | zero => exact h.2.2.imp (fun _ _ h => h.elim)
  | succ d => exact h.2.2.imp (fun y cs ⟨A, c, B, e, h1, hcp, h2⟩ => ⟨A, c, B, e, h1, ⟨by omega, hcp⟩, h2⟩)
theorem RV.mk (h1 : x.s.size ≤ 4294967296) (h2 : Strs w S A x.cols) (h3 : Rows w S d B x.rows) : RV w S d x A B := by
  cases d with
  | zero => exact ⟨h1, h2, h3.imp (fun y cs ⟨A, c, B, e, _, g1, _⟩ => absurd g1.1 (by omega))⟩
  | succ d => exact ⟨h1, h2, h3.imp (fun y cs ⟨A, c, B, e, g1, g0, g2⟩ => ⟨A, c, B, e, g1, g0.2, g2⟩)⟩
theorem RV.up (h : RV w S d x A B) {d' : Nat} (hd : d ≤ d') : RV w S d' x A B := by
  induction d generalizing x A B d' with
  | zero =>
    refine RV.mk h.1 h.2.1 (h.2.2.imp (fun _ _ h => h.elim))
  | succ d ih =>
    refine RV.mk h.1 h.2.1 (h.2.2.imp ?_)
    rintro y cs ⟨A, c, B, e, rfl, hcp, hy⟩
    exact ⟨A, c, B, e, rfl, ⟨by omega, hcp⟩, ih hy (by omega)⟩
theorem Rows.keep {l : List (List Val)} (h : Rows w S d B l) (k : Kept S w w') : Rows w' S d B l :=
  (RRs.keep h k).imp (fun _ _ ⟨A, c, B, e, h1, h2, h3⟩ => ⟨A, c, B, e, h1, h2, h3.keep k⟩)
theorem Rows.mono {l : List (List Val)} (h : Rows w S d B l) (k : ∀ i, i < w.heap.size → S i → T i) : Rows w T d B l :=
  (RRs.mono h k).imp (fun _ _ ⟨A, c, B, e, h1, h2, h3⟩ => ⟨A, c, B, e, h1, h2, h3.mono k⟩)
theorem Row.keep {l : List Val} (h : Row w S d B l) (k : Kept S w w') : Row w' S d B l :=
  (RVs.keep h k).imp (fun _ _ ⟨A, c, B, e, h1, h2, h3⟩ => ⟨A, c, B, e, h1, h2, h3.keep k⟩)
theorem Row.mono {l : List Val} (h : Row w S d B l) (k : ∀ i, i < w.heap.size → S i → T i) : Row w T d B l :=
  (RVs.mono h k).imp (fun _ _ ⟨A, c, B, e, h1, h2, h3⟩ => ⟨A, c, B, e, h1, h2, h3.mono k⟩)
theorem Rows.len {l : List (List Val)} (h : Rows w S d B l) : l.length ≤ 4294967296 := h.1
theorem Row.len {l : List Val} (h : Row w S d B l) : l.length ≤ 4294967296 := h.1
theorem Rows.at_ {l : List (List Val)} (h : Rows w S d B l) {k : Nat} (hk : k < l.length) :
    ∃ b o C e, B = some ⟨b, o, none⟩ ∧ b < w.heap.size ∧ w.cell? ⟨b, o + k, none⟩ = some (.slice C l[k].length e) ∧ l[k].length ≤ e ∧ Row w S d C l[k] := by
  obtain ⟨_, hs, h1, h2, h3⟩ := h
  obtain ⟨C, e, h4, hcp, h5⟩ := h3 k l[k] (List.getElem?_eq_getElem hk)
  obtain ⟨b, o, hB, hb, hc⟩ := h1.at_ h4
  exact ⟨b, o, C, e, hB, hb, hc, hcp, h5⟩
theorem Row.at_ {l : List Val} (h : Row w S d B l) {k : Nat} (hk : k < l.length) :
    ∃ b o A c C e, B = some ⟨b, o, none⟩ ∧ b < w.heap.size ∧ (w.cell? ⟨b, o + k * 7, none⟩ = some (.int .i64 l[k].kind) ∧ w.cell? ⟨b, o + k * 7 + 1, none⟩ = some (.string l[k].s) ∧ w.cell? ⟨b, o + k * 7 + 2, none⟩ = some (.int .i64 l[k].dn) ∧ w.cell? ⟨b, o + k * 7 + 3, none⟩ = some (.int .i64 l[k].ds) ∧ w.cell? ⟨b, o + k * 7 + 4, none⟩ = some (.int .i64 l[k].n) ∧ w.cell? ⟨b, o + k * 7 + 5, none⟩ = some (.slice A l[k].cols.length c) ∧ w.cell? ⟨b, o + k * 7 + 6, none⟩ = some (.slice C l[k].rows.length e)) ∧ (0 < d ∧ l[k].cols.length ≤ c ∧ l[k].rows.length ≤ e) ∧ RV w S (d - 1) l[k] A C := by
  obtain ⟨_, xs, h1, h2, h3⟩ := h
  obtain ⟨A, c, C, e, h4, h5, h6⟩ := h3 k l[k] (List.getElem?_eq_getElem hk)
  have hx : ∀ i u, (vcells l[k] A c C e)[i]? = some u → xs[k * 7 + i]? = some u := by
    intro i u hi
    have hlt : i < 7 := by
      have := (List.getElem?_eq_some_iff.1 hi).1
      simpa [vcells] using this
    rw [← h4, List.getElem?_take, if_pos hlt, List.getElem?_drop] at hi
    exact hi
  have hne : xs ≠ [] := by
    intro h0
    have := hx 0 _ rfl
    simp [h0] at this
  obtain ⟨b, o, hB, _, hb, hc⟩ := h1.some_ hne
  have hh : ∀ i u, (vcells l[k] A c C e)[i]? = some u → w.cell? ⟨b, o + k * 7 + i, none⟩ = some u := fun i u hi => by
    have := hc _ u (hx i u hi)
    rwa [← Nat.add_assoc] at this
  exact ⟨b, o, A, c, C, e, hB, hb, ⟨hh 0 _ rfl, hh 1 _ rfl, hh 2 _ rfl, hh 3 _ rfl, hh 4 _ rfl, hh 5 _ rfl, hh 6 _ rfl⟩, h5, h6⟩
end
end Go.Proofs.YtcmmkeiiapbgcaaGreatDoor
