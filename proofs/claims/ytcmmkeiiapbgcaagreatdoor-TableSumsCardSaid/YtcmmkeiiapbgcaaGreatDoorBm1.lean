/- The words of memory and of data that all walks of this seat use: a value of the program (Val), slices that read as lists, with the blocks in which they lie. No conditions. -/
import Derived.Test.YtcmmkeiiapbgcaaGreatDoorProg
import Derived.Tactics
import Derived.Tactics2
import Derived.WalkKit
import Derived.LoopTactic
import Derived.RegionTactic
import Derived.Deep.QuietTactic
import Derived.BigQuiet
import Derived.Below
import Derived.Laws.OwnMore
import Derived.Deep.AppendLies
import Derived.Deep.Draws
import Derived.Deep.RegionHeld3
import Derived.StillTailTactics
import Derived.Maps.AppendAt
import Derived.OwnWalk
import Derived.Outline
import Derived.KernelRfl
import Derived.Lib.Hide
namespace Go.Proofs.YtcmmkeiiapbgcaaGreatDoor
open Go Go.RowKit

/-- A value of the program: kind, text, number (units, scale), day or bool, columns, rows. -/
structure Val where
  kind : Int
  s : ByteArray
  dn : Int
  ds : Int
  n : Int
  cols : List ByteArray
  rows : List (List Val)

mutual
def Val.beqV : Val → Val → Bool
  | ⟨k, s, a, b, n, c, r⟩, ⟨k', s', a', b', n', c', r'⟩ => decide (k = k') && decide (s = s') && decide (a = a') && decide (b = b') && decide (n = n') && decide (c = c') && Val.beqRs r r'
def Val.beqRs : List (List Val) → List (List Val) → Bool
  | [], [] => true
  | x :: l, y :: m => Val.beqR x y && Val.beqRs l m
  | _, _ => false
def Val.beqR : List Val → List Val → Bool
  | [], [] => true
  | x :: l, y :: m => Val.beqV x y && Val.beqR l m
  | _, _ => false
 end
mutual
theorem Val.beqV_eq : ∀ x y : Val, Val.beqV x y = true ↔ x = y
  | ⟨k, s, a, b, n, c, r⟩, ⟨k', s', a', b', n', c', r'⟩ => by
    have := Val.beqRs_eq r r'
    simp [Val.beqV, this, and_assoc]
theorem Val.beqRs_eq : ∀ x y : List (List Val), Val.beqRs x y = true ↔ x = y
  | [], [] => by simp [Val.beqRs]
  | [], _ :: _ => by simp [Val.beqRs]
  | _ :: _, [] => by simp [Val.beqRs]
  | x :: l, y :: m => by
    have h1 := Val.beqR_eq x y
    have h2 := Val.beqRs_eq l m
    simp [Val.beqRs, h1, h2]
theorem Val.beqR_eq : ∀ x y : List Val, Val.beqR x y = true ↔ x = y
  | [], [] => by simp [Val.beqR]
  | [], _ :: _ => by simp [Val.beqR]
  | _ :: _, [] => by simp [Val.beqR]
  | x :: l, y :: m => by
    have h1 := Val.beqV_eq x y
    have h2 := Val.beqR_eq l m
    simp [Val.beqR, h1, h2]
 end
instance : DecidableEq Val := fun x y => decidable_of_iff _ (Val.beqV_eq x y)

/-- The world has grown: what was there is as it was. -/
def Ext (w w' : World) : Prop := Below w.heap.size w w'
theorem Ext.refl (w : World) : Ext w w := Below.refl _ _
theorem Ext.trans {a b c : World} (h : Ext a b) (k : Ext b c) : Ext a c := Below.trans h (Below.mono k h.size)
theorem Ext.drew {a b : World} (h : Ext a b) : Ext a b.drew := Below.drew h
theorem Ext.drewN {a b : World} (h : Ext a b) (n : Nat) : Ext a (b.drewN n) := ⟨h.os, h.tape, h.output, h.size, h.block⟩
theorem Ext.alloc {a b : World} (h : Ext a b) (o : Obj) : Ext a (b.alloc o) := Below.alloc h h.size o
theorem Ext.setCell {a b : World} (h : Ext a b) {p : Addr} (hp : a.heap.size ≤ p.block) (u : Value) : Ext a (b.setCell p u) := Below.setCell h hp u
theorem Ext.grown {a b c : World} {row : Option Nat} (h : Ext a b) (hg : b.grownBy c row) (hr : ∀ k, row = some k → a.heap.size ≤ k) : Ext a c := Below.grown h hg h.size hr
theorem Ext.mono {w w' : World} (h : Ext w w') {B : Nat} (hB : B ≤ w.heap.size) : Below B w w' := Below.mono h hB
theorem Ext.cell {w w' : World} (h : Ext w w') {p : Addr} {u : Value} (hc : w.cell? p = some u) : w'.cell? p = some u := by
  have hp : p.block < w.heap.size := by
    unfold World.cell? at hc
    rcases Nat.lt_or_ge p.block w.heap.size with h1 | h1
    · exact h1
    · rw [Array.getElem?_eq_none h1] at hc; cases hc
  rw [Below.cell h hp]; exact hc

/-- Blocks of S are as they were. -/
def Kept (S : Nat → Prop) (w w' : World) : Prop := w.heap.size ≤ w'.heap.size ∧ ∀ b, S b → b < w.heap.size → w'.heap[b]? = w.heap[b]?
theorem Ext.kept {w w' : World} (h : Ext w w') (S : Nat → Prop) : Kept S w w' := ⟨h.size, fun b _ hb => h.block b hb⟩
theorem Kept.refl (S : Nat → Prop) (w : World) : Kept S w w := ⟨Nat.le_refl _, fun _ _ _ => rfl⟩
theorem Kept.drew (S : Nat → Prop) (w : World) : Kept S w w.drew := ⟨Nat.le_refl _, fun _ _ _ => rfl⟩
theorem Kept.drewN (S : Nat → Prop) (w : World) (n : Nat) : Kept S w (w.drewN n) := ⟨Nat.le_refl _, fun _ _ _ => rfl⟩
theorem Kept.alloc (S : Nat → Prop) (w : World) (o : Obj) : Kept S w (w.alloc o) := ((Ext.refl w).alloc o).kept S
theorem Kept.trans {S : Nat → Prop} {a b c : World} (h : Kept S a b) (k : Kept S b c) : Kept S a c :=
  ⟨Nat.le_trans h.1 k.1, fun i hi hl => (k.2 i hi (Nat.lt_of_lt_of_le hl h.1)).trans (h.2 i hi hl)⟩
theorem Kept.mono {S T : Nat → Prop} {a b : World} (h : Kept S a b) (k : ∀ i, i < a.heap.size → T i → S i) : Kept T a b := ⟨h.1, fun i hi hl => h.2 i (k i hl hi) hl⟩
theorem Kept.of_grown {w w' : World} {row : Option Nat} {S : Nat → Prop} (h : w.grownBy w' row) (hS : ∀ b, S b → b < w.heap.size → some b ≠ row) : Kept S w w' :=
  ⟨h.size, fun b hb hl => h.block b hl (hS b hb hl)⟩
theorem Kept.of_set {w : World} {p : Addr} {u : Value} {S : Nat → Prop} (hS : ¬ S p.block) : Kept S w (w.setCell p u) :=
  ⟨by simp [World.setCell], fun b hb _ => Below.heap_setCell w p u b (fun e => hS (e ▸ hb))⟩
theorem Kept.set2 {w w' : World} {g i : Nat} {u : Value} {S : Nat → Prop} (h : Kept S w w') (hS : ¬ S g) : Kept S w (w'.setCell ⟨g, i, none⟩ u) := h.trans (Kept.of_set hS)
theorem Ext.set2 {a b : World} (h : Ext a b) {g i : Nat} (hp : a.heap.size ≤ g) (u : Value) : Ext a (b.setCell ⟨g, i, none⟩ u) := h.setCell hp u

/-- A slice reads as these cells, in a block of S. -/
def Rd (w : World) (S : Nat → Prop) (A : Option Addr) (xs : List Value) : Prop :=
  xs = [] ∨ ∃ b o, A = some ⟨b, o, none⟩ ∧ S b ∧ b < w.heap.size ∧ ∀ j u, xs[j]? = some u → w.cell? ⟨b, o + j, none⟩ = some u
section
variable {w w' : World} {S T : Nat → Prop} {A : Option Addr} {xs : List Value}
theorem Rd.nil : Rd w S A [] := Or.inl rfl
theorem Rd.keep (h : Rd w S A xs) (k : Kept S w w') : Rd w' S A xs := by
  rcases h with h | ⟨b, o, h1, h2, h3, h4⟩
  · exact Or.inl h
  · exact Or.inr ⟨b, o, h1, h2, Nat.lt_of_lt_of_le h3 k.1, fun j u hj => (World.cell?_of_block (w := w) (k.2 b h2 h3)).trans (h4 j u hj)⟩
theorem Rd.mono (h : Rd w S A xs) (k : ∀ i, i < w.heap.size → S i → T i) : Rd w T A xs := by
  rcases h with h | ⟨b, o, h1, h2, h3, h4⟩
  · exact Or.inl h
  · exact Or.inr ⟨b, o, h1, k b h3 h2, h3, h4⟩
theorem Rd.at_ (h : Rd w S A xs) {k : Nat} {u : Value} (hk : xs[k]? = some u) : ∃ b o, A = some ⟨b, o, none⟩ ∧ b < w.heap.size ∧ w.cell? ⟨b, o + k, none⟩ = some u := by
  rcases h with h | ⟨b, o, h1, _, h3, h4⟩
  · subst h; simp at hk
  · exact ⟨b, o, h1, h3, h4 k u hk⟩
theorem Rd.some_ (h : Rd w S A xs) (hk : xs ≠ []) : ∃ b o, A = some ⟨b, o, none⟩ ∧ S b ∧ b < w.heap.size ∧ ∀ j u, xs[j]? = some u → w.cell? ⟨b, o + j, none⟩ = some u := by
  rcases h with h | h
  · exact absurd h hk
  · exact h
theorem Rd.of_own {base e sz n c : Nat} (h : w.ownsRow base e sz (.slice A n c) n xs) : Rd w (fun b => base ≤ b) A xs := by
  rcases h.2 with ⟨hv, hn⟩ | ⟨g, cap, cur, hv, hb, hh, hnc, hcm, hcs, ht⟩
  · left
    have := h.1
    rw [hn] at this
    exact List.eq_nil_of_length_eq_zero (by simpa using this)
  · right
    have hA : A = some ⟨g, 0, none⟩ := by injection hv
    have hlt : g < w.heap.size := by
      rcases Nat.lt_or_ge g w.heap.size with h1 | h1
      · exact h1
      · rw [Array.getElem?_eq_none h1] at hh; cases hh
    refine ⟨g, 0, hA, hb, hlt, fun j u hj => ?_⟩
    have := h.cells (g := g) (by rw [hA]; rfl) j u hj
    simpa [Addr.add_lit] using this
theorem Rd.take (h : Rd w S A xs) (k : Nat) : Rd w S A (xs.take k) := by
  rcases h with h | ⟨b, o, h1, h2, h3, h4⟩
  · subst h; simp [Rd]
  · refine Or.inr ⟨b, o, h1, h2, h3, fun j u hj => h4 j u ?_⟩
    rw [List.getElem?_take] at hj
    split at hj
    · exact hj
    · cases hj
end

/-- Texts in memory. -/
def Strs (w : World) (S : Nat → Prop) (A : Option Addr) (l : List ByteArray) : Prop :=
  Rd w S A (l.map Value.string) ∧ l.length ≤ 4294967296 ∧ ∀ s ∈ l, s.size ≤ 4294967296
/-- Ints in memory. -/
def Ints (w : World) (S : Nat → Prop) (A : Option Addr) (l : List Int) : Prop :=
  Rd w S A (l.map (Value.int .i64)) ∧ l.length ≤ 4294967296
/-- The seven cells of a value. -/
def vcells (x : Val) (A : Option Addr) (c : Nat) (B : Option Addr) (e : Nat) : List Value :=
  [.int .i64 x.kind, .string x.s, .int .i64 x.dn, .int .i64 x.ds, .int .i64 x.n, .slice A x.cols.length c, .slice B x.rows.length e]
/-- Values of a row in memory; R: what is asked of each. -/
def RVs (R : Val → List Value → Prop) (w : World) (S : Nat → Prop) (A : Option Addr) (l : List Val) : Prop :=
  l.length ≤ 4294967296 ∧ ∃ xs : List Value, Rd w S A xs ∧ xs.length = l.length * 7 ∧ ∀ (j : Nat) (y : Val), l[j]? = some y → R y ((xs.drop (j * 7)).take 7)
/-- Rows in memory. -/
def RRs (R : Val → List Value → Prop) (w : World) (S : Nat → Prop) (A : Option Addr) (l : List (List Val)) : Prop :=
  l.length ≤ 4294967296 ∧ ∃ hs : List Value, Rd w S A hs ∧ hs.length = l.length ∧ ∀ (i : Nat) (r : List Val), l[i]? = some r → ∃ (B : Option Addr) (e : Nat), hs[i]? = some (Value.slice B r.length e) ∧ r.length ≤ e ∧ RVs R w S B r
/-- A value whose columns lie at A, its rows at B; d bounds how deep tables lie in tables. -/
def RV (w : World) (S : Nat → Prop) : Nat → Val → Option Addr → Option Addr → Prop
  | 0, x, A, B => x.s.size ≤ 4294967296 ∧ Strs w S A x.cols ∧ RRs (fun _ _ => False) w S B x.rows
  | d + 1, x, A, B => x.s.size ≤ 4294967296 ∧ Strs w S A x.cols ∧ RRs (fun y cs => ∃ A c B e, cs = vcells y A c B e ∧ (y.cols.length ≤ c ∧ y.rows.length ≤ e) ∧ RV w S d y A B) w S B x.rows
/-- Rows of values of a depth below d. -/
def Rows (w : World) (S : Nat → Prop) (d : Nat) (B : Option Addr) (l : List (List Val)) : Prop :=
  RRs (fun y cs => ∃ A c B e, cs = vcells y A c B e ∧ (0 < d ∧ y.cols.length ≤ c ∧ y.rows.length ≤ e) ∧ RV w S (d - 1) y A B) w S B l
/-- A row of values of a depth below d. -/
def Row (w : World) (S : Nat → Prop) (d : Nat) (B : Option Addr) (l : List Val) : Prop :=
  RVs (fun y cs => ∃ A c B e, cs = vcells y A c B e ∧ (0 < d ∧ y.cols.length ≤ c ∧ y.rows.length ≤ e) ∧ RV w S (d - 1) y A B) w S B l

section
variable {w w' : World} {S T : Nat → Prop} {A B : Option Addr} {d : Nat} {x : Val}
theorem Strs.keep {l : List ByteArray} (h : Strs w S A l) (k : Kept S w w') : Strs w' S A l := ⟨h.1.keep k, h.2⟩
theorem Strs.mono {l : List ByteArray} (h : Strs w S A l) (k : ∀ i, i < w.heap.size → S i → T i) : Strs w T A l := ⟨h.1.mono k, h.2⟩
theorem Strs.at_ {l : List ByteArray} (h : Strs w S A l) {k : Nat} (hk : k < l.length) : ∃ b o, A = some ⟨b, o, none⟩ ∧ b < w.heap.size ∧ w.cell? ⟨b, o + k, none⟩ = some (.string l[k]) :=
  h.1.at_ (by simp [hk])
theorem Strs.sz {l : List ByteArray} (h : Strs w S A l) {k : Nat} (hk : k < l.length) : l[k].size ≤ 4294967296 := h.2.2 _ (List.getElem_mem hk)
theorem Strs.nil : Strs w S A [] := ⟨Or.inl rfl, by simp, by simp⟩
theorem Ints.keep {l : List Int} (h : Ints w S A l) (k : Kept S w w') : Ints w' S A l := ⟨h.1.keep k, h.2⟩
theorem Ints.mono {l : List Int} (h : Ints w S A l) (k : ∀ i, i < w.heap.size → S i → T i) : Ints w T A l := ⟨h.1.mono k, h.2⟩
theorem Ints.at_ {l : List Int} (h : Ints w S A l) {k : Nat} (hk : k < l.length) : ∃ b o, A = some ⟨b, o, none⟩ ∧ b < w.heap.size ∧ w.cell? ⟨b, o + k, none⟩ = some (.int .i64 l[k]) :=
  h.1.at_ (by simp [hk])
theorem Ints.nil : Ints w S A [] := ⟨Or.inl rfl, by simp⟩
theorem RVs.imp {R R' : Val → List Value → Prop} {l : List Val} (h : RVs R w S A l) (f : ∀ y cs, R y cs → R' y cs) : RVs R' w S A l := by
  obtain ⟨h0, xs, h1, h2, h3⟩ := h
  exact ⟨h0, xs, h1, h2, fun j y hj => f _ _ (h3 j y hj)⟩
theorem RRs.imp {R R' : Val → List Value → Prop} {l : List (List Val)} (h : RRs R w S A l) (f : ∀ y cs, R y cs → R' y cs) : RRs R' w S A l := by
  obtain ⟨h0, xs, h1, h2, h3⟩ := h
  refine ⟨h0, xs, h1, h2, fun j y hj => ?_⟩
  obtain ⟨B, e, hb, hcp, hr⟩ := h3 j y hj
  exact ⟨B, e, hb, hcp, hr.imp f⟩
theorem RVs.keep {R : Val → List Value → Prop} {l : List Val} (h : RVs R w S A l) (k : Kept S w w') : RVs R w' S A l := by
  obtain ⟨h0, xs, h1, h2, h3⟩ := h
  exact ⟨h0, xs, h1.keep k, h2, h3⟩
theorem RVs.mono {R : Val → List Value → Prop} {l : List Val} (h : RVs R w S A l) (k : ∀ i, i < w.heap.size → S i → T i) : RVs R w T A l := by
  obtain ⟨h0, xs, h1, h2, h3⟩ := h
  exact ⟨h0, xs, h1.mono k, h2, h3⟩
theorem RRs.keep {R : Val → List Value → Prop} {l : List (List Val)} (h : RRs R w S A l) (k : Kept S w w') : RRs R w' S A l := by
  obtain ⟨h0, xs, h1, h2, h3⟩ := h
  refine ⟨h0, xs, h1.keep k, h2, fun j y hj => ?_⟩
  obtain ⟨B, e, hb, hcp, hr⟩ := h3 j y hj
  exact ⟨B, e, hb, hcp, hr.keep k⟩
theorem RRs.mono {R : Val → List Value → Prop} {l : List (List Val)} (h : RRs R w S A l) (k : ∀ i, i < w.heap.size → S i → T i) : RRs R w T A l := by
  obtain ⟨h0, xs, h1, h2, h3⟩ := h
  refine ⟨h0, xs, h1.mono k, h2, fun j y hj => ?_⟩
  obtain ⟨B, e, hb, hcp, hr⟩ := h3 j y hj
  exact ⟨B, e, hb, hcp, hr.mono k⟩
theorem RV.keep (h : RV w S d x A B) (k : Kept S w w') : RV w' S d x A B := by
  induction d generalizing x A B with
  | zero => exact ⟨h.1, h.2.1.keep k, h.2.2.keep k⟩
  | succ d ih =>
    refine ⟨h.1, h.2.1.keep k, (h.2.2.keep k).imp ?_⟩
    rintro y cs ⟨A, c, B, e, rfl, hcp, hy⟩
    exact ⟨A, c, B, e, rfl, hcp, ih hy⟩
theorem RV.mono (h : RV w S d x A B) (k : ∀ i, i < w.heap.size → S i → T i) : RV w T d x A B := by
  induction d generalizing x A B with
  | zero => exact ⟨h.1, h.2.1.mono k, h.2.2.mono k⟩
  | succ d ih =>
    refine ⟨h.1, h.2.1.mono k, (h.2.2.mono k).imp ?_⟩
    rintro y cs ⟨A, c, B, e, rfl, hcp, hy⟩
    exact ⟨A, c, B, e, rfl, hcp, ih hy⟩
theorem RV.size (h : RV w S d x A B) : x.s.size ≤ 4294967296 := by cases d <;> exact h.1
theorem RV.strs (h : RV w S d x A B) : Strs w S A x.cols := by cases d <;> exact h.2.1
theorem RV.rows_ (h : RV w S d x A B) : Rows w S d B x.rows := by
  cases d with
  | zero => exact h.2.2.imp (fun _ _ h => h.elim)
  | succ d => exact h.2.2.imp (fun y cs ⟨A, c, B, e, h1, hcp, h2⟩ => ⟨A, c, B, e, h1, ⟨by omega, hcp⟩, h2⟩)
theorem RV.mk (h1 : x.s.size ≤ 4294967296) (h2 : Strs w S A x.cols) (h3 : Rows w S d B x.rows) : RV w S d x A B := by
  cases d with
  | zero => exact ⟨h1, h2, h3.imp (fun y cs ⟨A, c, B, e, _, g1, _⟩ => absurd g1.1 (by omega))⟩
  | succ d => exact ⟨h1, h2, h3.imp (fun y cs ⟨A, c, B, e, g1, g0, g2⟩ => ⟨A, c, B, e, g1, g0.2, g2⟩)⟩
theorem RV.up (h : RV w S d x A B) {d' : Nat} (hd : d ≤ d') : RV w S d' x A B := by
  induction d generalizing x A B d' with
  | zero =>
    refine RV.mk h.1 h.2.1 (h.2.2.imp (fun _ _ h => h.elim))
  | succ d ih =>
    refine RV.mk h.1 h.2.1 (h.2.2.imp ?_)
    rintro y cs ⟨A, c, B, e, rfl, hcp, hy⟩
    exact ⟨A, c, B, e, rfl, ⟨by omega, hcp⟩, ih hy (by omega)⟩
theorem Rows.keep {l : List (List Val)} (h : Rows w S d B l) (k : Kept S w w') : Rows w' S d B l :=
  (RRs.keep h k).imp (fun _ _ ⟨A, c, B, e, h1, h2, h3⟩ => ⟨A, c, B, e, h1, h2, h3.keep k⟩)
theorem Rows.mono {l : List (List Val)} (h : Rows w S d B l) (k : ∀ i, i < w.heap.size → S i → T i) : Rows w T d B l :=
  (RRs.mono h k).imp (fun _ _ ⟨A, c, B, e, h1, h2, h3⟩ => ⟨A, c, B, e, h1, h2, h3.mono k⟩)
theorem Row.keep {l : List Val} (h : Row w S d B l) (k : Kept S w w') : Row w' S d B l :=
  (RVs.keep h k).imp (fun _ _ ⟨A, c, B, e, h1, h2, h3⟩ => ⟨A, c, B, e, h1, h2, h3.keep k⟩)
theorem Row.mono {l : List Val} (h : Row w S d B l) (k : ∀ i, i < w.heap.size → S i → T i) : Row w T d B l :=
  (RVs.mono h k).imp (fun _ _ ⟨A, c, B, e, h1, h2, h3⟩ => ⟨A, c, B, e, h1, h2, h3.mono k⟩)
theorem Rows.len {l : List (List Val)} (h : Rows w S d B l) : l.length ≤ 4294967296 := h.1
theorem Row.len {l : List Val} (h : Row w S d B l) : l.length ≤ 4294967296 := h.1
theorem Rows.at_ {l : List (List Val)} (h : Rows w S d B l) {k : Nat} (hk : k < l.length) :
    ∃ b o C e, B = some ⟨b, o, none⟩ ∧ b < w.heap.size ∧ w.cell? ⟨b, o + k, none⟩ = some (.slice C l[k].length e) ∧ l[k].length ≤ e ∧ Row w S d C l[k] := by
  obtain ⟨_, hs, h1, h2, h3⟩ := h
  obtain ⟨C, e, h4, hcp, h5⟩ := h3 k l[k] (List.getElem?_eq_getElem hk)
  obtain ⟨b, o, hB, hb, hc⟩ := h1.at_ h4
  exact ⟨b, o, C, e, hB, hb, hc, hcp, h5⟩
theorem Row.at_ {l : List Val} (h : Row w S d B l) {k : Nat} (hk : k < l.length) :
    ∃ b o A c C e, B = some ⟨b, o, none⟩ ∧ b < w.heap.size ∧ (w.cell? ⟨b, o + k * 7, none⟩ = some (.int .i64 l[k].kind) ∧ w.cell? ⟨b, o + k * 7 + 1, none⟩ = some (.string l[k].s) ∧ w.cell? ⟨b, o + k * 7 + 2, none⟩ = some (.int .i64 l[k].dn) ∧ w.cell? ⟨b, o + k * 7 + 3, none⟩ = some (.int .i64 l[k].ds) ∧ w.cell? ⟨b, o + k * 7 + 4, none⟩ = some (.int .i64 l[k].n) ∧ w.cell? ⟨b, o + k * 7 + 5, none⟩ = some (.slice A l[k].cols.length c) ∧ w.cell? ⟨b, o + k * 7 + 6, none⟩ = some (.slice C l[k].rows.length e)) ∧ (0 < d ∧ l[k].cols.length ≤ c ∧ l[k].rows.length ≤ e) ∧ RV w S (d - 1) l[k] A C := by
  obtain ⟨_, xs, h1, h2, h3⟩ := h
  obtain ⟨A, c, C, e, h4, h5, h6⟩ := h3 k l[k] (List.getElem?_eq_getElem hk)
  have hx : ∀ i u, (vcells l[k] A c C e)[i]? = some u → xs[k * 7 + i]? = some u := by
    intro i u hi
    have hlt : i < 7 := by
      have := (List.getElem?_eq_some_iff.1 hi).1
      simpa [vcells] using this
    rw [← h4, List.getElem?_take, if_pos hlt, List.getElem?_drop] at hi
    exact hi
  have hne : xs ≠ [] := by
    intro h0
    have := hx 0 _ rfl
    simp [h0] at this
  obtain ⟨b, o, hB, _, hb, hc⟩ := h1.some_ hne
  have hh : ∀ i u, (vcells l[k] A c C e)[i]? = some u → w.cell? ⟨b, o + k * 7 + i, none⟩ = some u := fun i u hi => by
    have := hc _ u (hx i u hi)
    rwa [← Nat.add_assoc] at this
  exact ⟨b, o, A, c, C, e, hB, hb, ⟨hh 0 _ rfl, hh 1 _ rfl, hh 2 _ rfl, hh 3 _ rfl, hh 4 _ rfl, hh 5 _ rfl, hh 6 _ rfl⟩, h5, h6⟩
end
end Go.Proofs.YtcmmkeiiapbgcaaGreatDoor
/- A region that draws its order: one proof an operation serves every order, if each operation's own fact stands whatever the others do. No conditions. -/
namespace Go.Proofs.YtcmmkeiiapbgcaaGreatDoor
open Go Go.RowKit

/-- The operations for which o waits. -/
def predsOf (o : Oper) : List Nat := (o.after.toList.filter (Region.binds .any)).map (·.on)
/-- What an operation yields, and the world behind it. -/
def linUpon (P : Program) (K : Value → World → Prop) : Result Next → Prop
  | .ok (.value v) w' => K v w'
  | .ok .skip w' => K undef w'
  | .ok (.enter f args) w' => Calls P f args w' (fun e w'' => ∃ v, e = .returned v ∧ K v w'')
  | _ => False
/-- The slot t as operation o finds it. -/
def linLook (ops : Array Oper) (o : Oper) (a0 : Act) (vals : Nat → Value) (t : Nat) : Value :=
  match (predsOf o).find? (fun j => (ops[j]?).bind (·.dst) == some t) with
  | some j => vals j
  | none => a0.tmps.getD t undef
def linEnv (ops : Array Oper) (o : Oper) (a0 : Act) (vals : Nat → Value) : Operand → Value
  | .tmp t => linLook ops o a0 vals t
  | x => a0.eval x
def boolOf : Value → Option Bool
  | .bool b => some b
  | _ => none
def linWanted (o : Oper) (vals : Nat → Value) : Bool :=
  match o.guard with
  | none => true
  | some (g, want) => boolOf (vals g) == some want
def lexFrame (vals : Nat → Value) : List Oper → Nat → Act → Act
  | [], _, a => a
  | o :: l, k, a => lexFrame vals l (k + 1) (a.put o.dst (vals k))
def setV (vals : Nat → Value) (i : Nat) (v : Value) : Nat → Value := fun k => if k = i then v else vals k
/-- The closed facts of a region. -/
def linB (ops : Array Oper) (D : Nat → List Nat) (n : Nat) : Bool :=
  Region.noSelect ops && decide ((ops.toList.filterMap (·.dst)).Nodup) && (ops.toList.filterMap (·.dst)).all (fun d => decide (d < n)) &&
  (List.range ops.size).all fun i => match ops[i]? with
    | none => true
    | some o => (predsOf o).all (fun j => decide (j < i)) && (D i).all (fun j => decide (j = i) || (predsOf o).contains j) &&
      (match o.guard with | none => true | some (g, _) => (predsOf o).contains g && ((ops[g]?).bind (·.dst)).isSome) &&
      (o.looksAt ops).all fun t => (List.range ops.size).all fun j => match ops[j]? with
        | none => true
        | some oj => decide (oj.dst ≠ some t) || decide (j = i) || (predsOf o).contains j || (predsOf oj).contains i
/-- What is to be shown of operation i. -/
def LinStep {Γ : Type} (P : Program) (ops : Array Oper) (D : Nat → List Nat) (R : Γ → World → Γ → World → Prop) (N : Nat → Γ → Prop) (G : Nat → List Value → Γ → World → Prop) (a0 : Act) (γ0 : Γ) (w0 : World) (i : Nat) (o : Oper) : Prop :=
  ∀ (vals : Nat → Value) (γ : Γ) (w : World), R γ0 w0 γ w → N i γ → (∀ j, j ∈ predsOf o → G j ((D j).map vals) γ w) →
    if linWanted o vals then linUpon P (fun v w' => ∃ γ', R γ w γ' w' ∧ (∀ j, j ≠ i → j ∉ predsOf o → N j γ → N j γ') ∧ G i ((D i).map (setV vals i v)) γ' w') ((execOp (linEnv ops o a0 vals) o).run P w)
    else G i ((D i).map (setV vals i undef)) γ w

section
variable {P : Program} {ops : Array Oper} {Q : Exit → Act → World → Prop}

theorem linB_spec {D : Nat → List Nat} {n : Nat} (h : linB ops D n = true) :
    Region.noSelect ops = true ∧ (ops.toList.filterMap (·.dst)).Nodup ∧ (∀ (i : Nat) (o : Oper) (d : Nat), ops[i]? = some o → o.dst = some d → d < n) ∧
    (∀ (i : Nat) (o : Oper) (j : Nat), ops[i]? = some o → j ∈ predsOf o → j < i) ∧ (∀ (i : Nat) (o : Oper) (j : Nat), ops[i]? = some o → j ∈ D i → j = i ∨ j ∈ predsOf o) ∧
    (∀ (i : Nat) (o : Oper) (g : Nat) (b : Bool), ops[i]? = some o → o.guard = some (g, b) → g ∈ predsOf o ∧ ∃ (og : Oper) (t : Nat), ops[g]? = some og ∧ og.dst = some t) ∧
    (∀ (i : Nat) (o : Oper) (t j : Nat) (oj : Oper), ops[i]? = some o → t ∈ o.looksAt ops → ops[j]? = some oj → oj.dst = some t → j = i ∨ j ∈ predsOf o ∨ i ∈ predsOf oj) := by
  simp only [linB, Bool.and_eq_true, decide_eq_true_eq] at h
  obtain ⟨⟨⟨h1, h2⟩, h3⟩, h4⟩ := h
  rw [List.all_eq_true] at h3 h4
  have key : ∀ (i : Nat) (o : Oper), ops[i]? = some o → (((∀ j ∈ predsOf o, j < i) ∧ (∀ j ∈ D i, (decide (j = i) || (predsOf o).contains j) = true)) ∧
      (match o.guard with | none => true | some (g, _) => (predsOf o).contains g && ((ops[g]?).bind (·.dst)).isSome) = true) ∧
      ∀ t ∈ o.looksAt ops, ∀ j ∈ List.range ops.size, (match ops[j]? with
        | none => true
        | some oj => decide (oj.dst ≠ some t) || decide (j = i) || (predsOf o).contains j || (predsOf oj).contains i) = true := fun i o hi => by
    have hlt : i < ops.size := (Array.getElem?_eq_some_iff.1 hi).1
    have := h4 i (List.mem_range.2 hlt)
    simp only [hi, Bool.and_eq_true, List.all_eq_true, decide_eq_true_eq] at this
    exact this
  refine ⟨h1, h2, ?_, ?_, ?_, ?_, ?_⟩
  · intro i o d hi hd
    have : d ∈ ops.toList.filterMap (·.dst) := List.mem_filterMap.2 ⟨o, by simpa using Array.mem_of_getElem? hi, hd⟩
    simpa using h3 d this
  · intro i o j hi hj
    exact (key i o hi).1.1.1 j hj
  · intro i o j hi hj
    have := (key i o hi).1.1.2 j hj
    simpa using this
  · intro i o g b hi hg
    have := (key i o hi).1.2
    simp only [hg, Bool.and_eq_true, List.contains_iff_mem, Option.isSome_iff_exists] at this
    obtain ⟨h5, t, h6⟩ := this
    refine ⟨by simpa using h5, ?_⟩
    cases hgo : ops[g]? with
    | none => simp [hgo] at h6
    | some og => simp [hgo] at h6; exact ⟨og, t, rfl, h6⟩
  · intro i o t j oj hi ht hj hd
    have hlt : j < ops.size := (Array.getElem?_eq_some_iff.1 hj).1
    have := (key i o hi).2 t ht j (List.mem_range.2 hlt)
    simp only [hj, hd, Bool.or_eq_true, decide_eq_true_eq, List.contains_iff_mem] at this
    rcases this with ((h | h) | h) | h
    · exact absurd rfl h
    · exact .inl h
    · exact .inr (.inl (by simpa using h))
    · exact .inr (.inr (by simpa using h))

theorem dst_inj (h : (ops.toList.filterMap (·.dst)).Nodup) {i j : Nat} {oi oj : Oper} {t : Nat} (hi : ops[i]? = some oi) (hj : ops[j]? = some oj) (hdi : oi.dst = some t) (hdj : oj.dst = some t) : i = j := by
  have hi' : ops.toList[i]? = some oi := by simpa using hi
  have hj' : ops.toList[j]? = some oj := by simpa using hj
  clear hi hj
  generalize ops.toList = l at *
  induction l generalizing i j with
  | nil => simp at hi'
  | cons o l ih =>
    cases i with
    | zero =>
      cases j with
      | zero => rfl
      | succ j =>
        exfalso
        simp at hi' hj'
        subst hi'
        rw [List.filterMap_cons_some hdi, List.nodup_cons] at h
        exact h.1 (List.mem_filterMap.2 ⟨oj, List.mem_of_getElem? hj', hdj⟩)
    | succ i =>
      cases j with
      | zero =>
        exfalso
        simp at hi' hj'
        subst hj'
        rw [List.filterMap_cons_some hdj, List.nodup_cons] at h
        exact h.1 (List.mem_filterMap.2 ⟨oi, List.mem_of_getElem? hi', hdi⟩)
      | succ j =>
        have hn : (l.filterMap (·.dst)).Nodup := by
          cases hod : o.dst with
          | none => rwa [List.filterMap_cons_none hod] at h
          | some d => rw [List.filterMap_cons_some hod, List.nodup_cons] at h; exact h.2
        have hij : i = j := ih hn (by simpa using hi') (by simpa using hj')
        rw [hij]

theorem lexFrame_size (vals : Nat → Value) : ∀ (l : List Oper) (k : Nat) (a : Act), (lexFrame vals l k a).tmps.size = a.tmps.size ∧ (lexFrame vals l k a).defers = a.defers
  | [], _, _ => ⟨rfl, rfl⟩
  | o :: l, k, a => by
    have := lexFrame_size vals l (k + 1) (a.put o.dst (vals k))
    cases hd : o.dst <;> simp [lexFrame, hd, Act.put] at this ⊢ <;> exact this
theorem lexFrame_no (vals : Nat → Value) : ∀ (l : List Oper) (k : Nat) (a : Act) (t : Nat), (∀ o ∈ l, o.dst ≠ some t) → (lexFrame vals l k a).tmps[t]? = a.tmps[t]?
  | [], _, _, _, _ => rfl
  | o :: l, k, a, t, h => by
    have h1 := lexFrame_no vals l (k + 1) (a.put o.dst (vals k)) t (fun o' ho' => h o' (List.mem_cons_of_mem _ ho'))
    have h2 := h o List.mem_cons_self
    rw [lexFrame, h1]
    cases hd : o.dst with
    | none => rfl
    | some d =>
      have hne : d ≠ t := fun e => h2 (by rw [hd, e])
      simp [Act.put, Array.getElem?_setIfInBounds_ne hne]
theorem lexFrame_at (vals : Nat → Value) : ∀ (l : List Oper) (k : Nat) (a : Act) (j : Nat) (o : Oper) (t : Nat), (l.filterMap (·.dst)).Nodup → l[j]? = some o → o.dst = some t → t < a.tmps.size → (lexFrame vals l k a).tmps[t]? = some (vals (k + j))
  | [], _, _, _, _, _, _, h, _, _ => by simp at h
  | o :: l, k, a, 0, o', t, hn, h, hd, ht => by
    simp at h
    subst h
    rw [List.filterMap_cons_some hd, List.nodup_cons] at hn
    rw [lexFrame, lexFrame_no vals l (k + 1) _ t (fun o' ho' hd' => hn.1 (List.mem_filterMap.2 ⟨o', ho', hd'⟩))]
    simp [Act.put, hd, ht]
  | o :: l, k, a, j + 1, o', t, hn, h, hd, ht => by
    have hn' : (l.filterMap (·.dst)).Nodup := by
      cases hod : o.dst with
      | none => rwa [List.filterMap_cons_none hod] at hn
      | some d => rw [List.filterMap_cons_some hod, List.nodup_cons] at hn; exact hn.2
    have := lexFrame_at vals l (k + 1) (a.put o.dst (vals k)) j o' t hn' (by simpa using h) hd (by cases hod : o.dst <;> simpa [Act.put] using ht)
    rw [lexFrame, this, show k + 1 + j = k + (j + 1) by omega]

theorem count_lt {p q : Nat → Bool} (hle : ∀ j, q j = true → p j = true) {i : Nat} (hp : p i = true) (hq : q i = false) : ∀ l : List Nat, i ∈ l → l.countP q + 1 ≤ l.countP p
  | x :: l, h => by
    have mono : ∀ l : List Nat, l.countP q ≤ l.countP p := fun l => List.countP_mono_left fun x _ hx => hle x hx
    rcases List.mem_cons.1 h with rfl | h'
    · rw [List.countP_cons_of_pos hp, List.countP_cons_of_neg (by simp [hq])]
      have := mono l
      omega
    · have ih := count_lt hle hp hq l h'
      by_cases hx : q x = true
      · rw [List.countP_cons_of_pos hx, List.countP_cons_of_pos (hle x hx)]; omega
      · rw [List.countP_cons_of_neg hx]
        have := List.countP_cons (p := p) (a := x) (l := l)
        omega

/-- What stands between two operations. -/
structure LinInv {Γ : Type} (ops : Array Oper) (D : Nat → List Nat) (R : Γ → World → Γ → World → Prop) (N : Nat → Γ → Prop) (G : Nat → List Value → Γ → World → Prop) (a0 : Act) (γ0 : Γ) (w0 : World) (listed : Array Bool) (a : Act) (w : World) (vals : Nat → Value) (γ : Γ) : Prop where
  size : listed.size = ops.size
  asize : a.tmps.size = a0.tmps.size
  defers : a.defers = a0.defers
  at_ : ∀ (j : Nat) (o : Oper) (t : Nat), ops[j]? = some o → listed.getD j false = true → o.dst = some t → a.tmps[t]? = some (vals j)
  no : ∀ t : Nat, (∀ (j : Nat) (o : Oper), ops[j]? = some o → listed.getD j false = true → o.dst ≠ some t) → a.tmps[t]? = a0.tmps[t]?
  rel : R γ0 w0 γ w
  down : ∀ (j : Nat) (o : Oper), ops[j]? = some o → listed.getD j false = true → ∀ k, k ∈ predsOf o → listed.getD k false = true
  open_ : ∀ j, j < ops.size → listed.getD j false = false → N j γ
  facts : ∀ j, j < ops.size → listed.getD j false = true → G j ((D j).map vals) γ w

theorem getD_both {listed : Array Bool} {j : Nat} (h : j < listed.size) : listed.getD j true = listed.getD j false := by simp [h]

theorem wp_region_lin {Γ : Type} {id : Nat} {a0 : Act} {w0 : World} (hm : P.follows .mixedOrders = true) (D : Nat → List Nat) (hB : linB ops D a0.tmps.size = true)
    (R : Γ → World → Γ → World → Prop) (hrefl : ∀ γ w, R γ w γ w) (htrans : ∀ γ w γ' w' γ'' w'', R γ w γ' w' → R γ' w' γ'' w'' → R γ w γ'' w'')
    (N : Nat → Γ → Prop) (G : Nat → List Value → Γ → World → Prop) (hst : ∀ i l γ w γ' w', R γ w γ' w' → G i l γ w → G i l γ' w') (γ0 : Γ) (hN : ∀ i, N i γ0)
    (hstep : ∀ i o, ops[i]? = some o → LinStep P ops D R N G a0 γ0 w0.drew i o)
    (hfin : ∀ vals γ w, R γ0 w0.drew γ w → (∀ i, i < ops.size → G i ((D i).map vals) γ w) → Q .normal (lexFrame vals ops.toList 0 a0) w) :
    (Code.region id ops true).wp P Q a0 w0 := by
  obtain ⟨hsel, hnd, hlt, hacyc, hD, hguard, hlook⟩ := linB_spec hB
  have main : ∀ (fuel : Nat) (listed : Array Bool) (a : Act) (w : World) (vals : Nat → Value) (γ : Γ), LinInv ops D R N G a0 γ0 w0.drew listed a w vals γ →
      (List.range ops.size).countP (fun i => !listed.getD i true) ≤ fuel → wpAny P .any ops Q fuel listed a w := by
    intro fuel
    have fin : ∀ (listed : Array Bool) (a : Act) (w : World) (vals : Nat → Value) (γ : Γ), LinInv ops D R N G a0 γ0 w0.drew listed a w vals γ → (∀ j, j < ops.size → listed.getD j false = true) → Q .normal a w := by
      intro listed a w vals γ I hall
      have ha : a = lexFrame vals ops.toList 0 a0 := by
        have hs := lexFrame_size vals ops.toList 0 a0
        have ht : a.tmps = (lexFrame vals ops.toList 0 a0).tmps := by
          apply Array.ext_getElem?
          intro t
          by_cases hex : ∃ (j : Nat) (o : Oper), ops[j]? = some o ∧ o.dst = some t
          · obtain ⟨j, o, hj, hd⟩ := hex
            have hjl : j < ops.size := (Array.getElem?_eq_some_iff.1 hj).1
            rw [I.at_ j o t hj (hall j hjl) hd, lexFrame_at vals ops.toList 0 a0 j o t hnd (by simpa using hj) hd (hlt j o t hj hd), Nat.zero_add]
          · have hno : ∀ (j : Nat) (o : Oper), ops[j]? = some o → o.dst ≠ some t := fun j o hj hd => hex ⟨j, o, hj, hd⟩
            rw [I.no t (fun j o hj _ => hno j o hj), lexFrame_no vals ops.toList 0 a0 t (fun o ho => by
              obtain ⟨j, hj⟩ := List.mem_iff_getElem?.1 ho
              exact hno j o (by simpa using hj))]
        have hdf : a.defers = (lexFrame vals ops.toList 0 a0).defers := by rw [I.defers, hs.2]
        cases a
        cases hl : lexFrame vals ops.toList 0 a0
        rw [hl] at ht hdf
        simp at ht hdf
        rw [ht, hdf]
      rw [ha]
      exact hfin vals γ w I.rel fun i hi => I.facts i hi (hall i hi)
    have ready_nil : ∀ (listed : Array Bool), listed.size = ops.size → Region.ready .any ops listed = [] → ∀ j, j < ops.size → listed.getD j false = true := by
      intro listed hsz hr j
      induction j using Nat.strongRecOn with
      | _ j ih =>
        intro hj
        cases hl : listed.getD j false with
        | true => rfl
        | false =>
          exfalso
          have hmem : j ∈ Region.ready .any ops listed := by
            refine mem_ready.2 ⟨by rw [getD_both (by omega)]; exact hl, ops[j], by simp [hj], fun e he hb => ?_⟩
            have hp : e.on ∈ predsOf ops[j] := List.mem_map.2 ⟨e, List.mem_filter.2 ⟨by simpa using he, hb⟩, rfl⟩
            have hlt' := hacyc j ops[j] e.on (by simp [hj]) hp
            exact ih e.on hlt' (by omega)
          rw [hr] at hmem
          cases hmem
    induction fuel with
    | zero =>
      intro listed a w vals γ I hc
      have hall : ∀ j, j < ops.size → listed.getD j false = true := by
        intro j hj
        have h0 : (List.range ops.size).countP (fun i => !listed.getD i true) = 0 := by omega
        rw [List.countP_eq_zero] at h0
        have := h0 j (List.mem_range.2 hj)
        rw [getD_both (by rw [I.size]; exact hj)] at this
        simpa using this
      refine ⟨?_, fin listed a w vals γ I hall⟩
      cases hr : Region.ready .any ops listed with
      | nil => rfl
      | cons i l =>
        exfalso
        have hi : i ∈ Region.ready .any ops listed := by rw [hr]; exact List.mem_cons_self
        obtain ⟨h0, o, ho, _⟩ := mem_ready.1 hi
        have hil : i < ops.size := (Array.getElem?_eq_some_iff.1 ho).1
        rw [getD_both (by rw [I.size]; exact hil), hall i hil] at h0
        cases h0
    | succ fuel ih =>
      intro listed a w vals γ I hc
      refine ⟨fun hr => fin listed a w vals γ I (ready_nil listed I.size hr), fun i hi => ?_⟩
      obtain ⟨h0, o, ho, hpre⟩ := mem_ready.1 hi
      have hil : i < ops.size := (Array.getElem?_eq_some_iff.1 ho).1
      have hisz : i < listed.size := by rw [I.size]; exact hil
      have hun : listed.getD i false = false := by rw [← getD_both hisz]; exact h0
      have hpl : ∀ j, j ∈ predsOf o → listed.getD j false = true := by
        intro j hj
        obtain ⟨e, he, rfl⟩ := List.mem_map.1 hj
        obtain ⟨he1, he2⟩ := List.mem_filter.1 he
        exact hpre e (by simpa using he1) he2
      have hslot : ∀ t, t ∈ o.looksAt ops → a.tmps.getD t undef = linLook ops o a0 vals t := by
        intro t ht
        unfold linLook
        cases hf : (predsOf o).find? (fun j => (ops[j]?).bind (·.dst) == some t) with
        | some j =>
          have hj := List.mem_of_find?_eq_some hf
          have hd := List.find?_some hf
          simp only [beq_iff_eq] at hd
          cases hoj : ops[j]? with
          | none => simp [hoj] at hd
          | some oj =>
            simp only [hoj, Option.bind_some] at hd
            simp [I.at_ j oj t hoj (hpl j hj) hd]
        | none =>
          rw [List.find?_eq_none] at hf
          have : a.tmps[t]? = a0.tmps[t]? := I.no t (fun j oj hj hjl hd => by
            rcases hlook i o t j oj ho ht hj hd with rfl | h | h
            · rw [hun] at hjl; cases hjl
            · exact hf j h (by simp [hj, hd])
            · have := I.down j oj hj hjl i h
              rw [hun] at this; cases this)
          simp [this]
      have henv : execOp a.eval o = execOp (linEnv ops o a0 vals) o := by
        refine execOp_congr o (fun cs b => Region.noSelect_spec hsel i o cs b ho) fun x hx => ?_
        cases x with
        | tmp t => exact hslot t (List.mem_append_left _ (List.mem_filterMap.2 ⟨.tmp t, by simpa using hx, rfl⟩))
        | _ => rfl
      have hwant : Region.wanted o (yielded ops a.tmps) = linWanted o vals := by
        unfold Region.wanted linWanted
        cases hg : o.guard with
        | none => rfl
        | some gb =>
          obtain ⟨g, b⟩ := gb
          obtain ⟨hgp, og, t, hog, hdt⟩ := hguard i o g b ho hg
          have h1 := I.at_ g og t hog (hpl g hgp) hdt
          simp only [yielded, hog, Option.bind_some, hdt, h1]
          congr 1
          unfold boolOf
          split <;> simp_all
      have hpf : ∀ j, j ∈ predsOf o → G j ((D j).map vals) γ w := fun j hj => I.facts j (by have := hacyc i o j ho hj; omega) (hpl j hj)
      have hS := hstep i o ho vals γ w I.rel (I.open_ i hil hun) hpf
      have next : ∀ (v : Value) (γ' : Γ) (w' : World), R γ w γ' w' → (∀ j, j ≠ i → j ∉ predsOf o → N j γ → N j γ') → G i ((D i).map (setV vals i v)) γ' w' → wpAny P .any ops Q fuel (listed.setIfInBounds i true) (a.put o.dst v) w' := by
        intro v γ' w' hR hN' hG
        have hget : ∀ j, j ≠ i → (listed.setIfInBounds i true).getD j false = listed.getD j false := fun j hj => getD_set_ne false (Ne.symm hj)
        have hgeti : (listed.setIfInBounds i true).getD i false = true := by simp [hisz]
        refine ih _ _ _ (setV vals i v) γ' ⟨by simp [I.size], ?_, ?_, ?_, ?_, htrans _ _ _ _ _ _ I.rel hR, ?_, ?_, ?_⟩ ?_
        · cases hd : o.dst <;> simp [Act.put, I.asize]
        · cases hd : o.dst <;> simp [Act.put, I.defers]
        · intro j oj t hj hjl hd
          by_cases hji : j = i
          · subst hji
            obtain rfl : o = oj := Option.some.inj (ho.symm.trans hj)
            have hlt' : t < a.tmps.size := by rw [I.asize]; exact hlt j o t ho hd
            simp [Act.put, hd, hlt', setV]
          · rw [hget j hji] at hjl
            have h1 := I.at_ j oj t hj hjl hd
            simp only [setV, if_neg hji]
            cases hod : o.dst with
            | none => exact h1
            | some d =>
              have hne : d ≠ t := fun e => hji (dst_inj hnd hj ho hd (by rw [hod, e]))
              simp only [Act.put]
              rw [Array.getElem?_setIfInBounds_ne hne]
              exact h1
        · intro t hno
          have hdt : o.dst ≠ some t := hno i o ho hgeti
          have h1 := I.no t (fun j oj hj hjl => hno j oj hj (by
            by_cases hji : j = i
            · subst hji; exact hgeti
            · rw [hget j hji]; exact hjl))
          cases hod : o.dst with
          | none => exact h1
          | some d =>
            have hne : d ≠ t := fun e => hdt (by rw [hod, e])
            simp only [Act.put]
            rw [Array.getElem?_setIfInBounds_ne hne]
            exact h1
        · intro j oj hj hjl k hk
          by_cases hji : j = i
          · subst hji
            obtain rfl : o = oj := Option.some.inj (ho.symm.trans hj)
            exact getD_set_true (hpl k hk)
          · rw [hget j hji] at hjl
            exact getD_set_true (I.down j oj hj hjl k hk)
        · intro j hj hjl
          by_cases hji : j = i
          · subst hji; rw [hgeti] at hjl; cases hjl
          · rw [hget j hji] at hjl
            exact hN' j hji (fun hp => by rw [hpl j hp] at hjl; cases hjl) (I.open_ j hj hjl)
        · intro j hj hjl
          by_cases hji : j = i
          · subst hji; exact hG
          · rw [hget j hji] at hjl
            have h1 := hst _ _ _ _ _ _ hR (I.facts j hj hjl)
            have hmap : (D j).map (setV vals i v) = (D j).map vals := by
              apply List.map_congr_left
              intro k hk
              have hki : k ≠ i := by
                intro e
                subst e
                rcases hD j ops[j] k (by simp [hj]) hk with h | h
                · exact hji h.symm
                · have := I.down j ops[j] (by simp [hj]) hjl k h
                  rw [hun] at this; cases this
              simp [setV, hki]
            rw [hmap]
            exact h1
        · have := count_lt (p := fun k => !listed.getD k true) (q := fun k => !(listed.setIfInBounds i true).getD k true) (i := i) (fun k hk => by
            by_cases hki : k = i
            · subst hki; simp [hisz] at hk
            · rw [getD_set_ne true (Ne.symm hki)] at hk; exact hk) (by simpa using h0) (by simp [hisz]) (List.range ops.size) (List.mem_range.2 hil)
          omega
      unfold wpOp
      simp only [ho]
      rw [hwant]
      by_cases hw : linWanted o vals = true
      · rw [if_pos hw] at hS ⊢
        refine .inl ?_
        unfold Oper.wp
        rw [henv]
        generalize (execOp (linEnv ops o a0 vals) o).run P w = r at hS
        cases r with
        | ok n w' =>
          cases n <;> simp only [linUpon] at hS <;> simp only [Oper.upon]
          case value v => obtain ⟨γ', h1, hn, h2⟩ := hS; exact next v γ' w' h1 hn h2
          case skip => obtain ⟨γ', h1, hn, h2⟩ := hS; exact next undef γ' w' h1 hn h2
          case enter f args => exact hS.mono fun e w'' ⟨v, he, γ', h1, hn, h2⟩ => by subst he; exact next v γ' w'' h1 hn h2
        | halt x w' => simp only [linUpon] at hS
      · rw [if_neg hw] at hS ⊢
        exact next undef γ w (hrefl _ _) (fun _ _ _ h => h) hS
  refine wp_region_any hm (main ops.size _ a0 w0.drew (fun _ => undef) γ0 ⟨by simp, rfl, rfl, ?_, fun _ _ => rfl, hrefl _ _, ?_, fun j _ _ => hN j, ?_⟩ ?_)
  · intro j o t hj hl _
    have : j < ops.size := (Array.getElem?_eq_some_iff.1 hj).1
    simp [this] at hl
  · intro j o hj hl
    have : j < ops.size := (Array.getElem?_eq_some_iff.1 hj).1
    simp [this] at hl
  · intro j hj hl
    simp [hj] at hl
  · have := List.countP_le_length (p := fun i => !(Array.replicate ops.size false).getD i true) (l := List.range ops.size)
    simpa using this
end
end Go.Proofs.YtcmmkeiiapbgcaaGreatDoor
/- Equality of texts, rows and values: the reference's (Strings, Same, SameRows, Equal) and the program's (slices.Equal, EqualFunc, equalRows, Equal) answer whether the data are equal. No conditions but that the arguments read as data. -/
namespace Go.Proofs.YtcmmkeiiapbgcaaGreatDoor
open Go Go.RowKit

/-- What a call that answers a bool, and makes new memory alone, leaves. -/
def RetB (w : World) (b : Bool) (e : Ending) (w' : World) : Prop := e = .returned (.bool b) ∧ Ext w w'
def QuietB (w : World) (b : Bool) (e : Ending) (w' : World) : Prop := e = .returned (.bool b) ∧ ∃ n, w' = w.drewN n
theorem QuietB.ret {w : World} {b : Bool} {e : Ending} {w' : World} (h : QuietB w b e w') : RetB w b e w' := by
  obtain ⟨he, n, rfl⟩ := h
  exact ⟨he, (Ext.refl w).drewN n⟩
theorem bcell {W w1 : World} (hb : Ext W w1) : (∀ b o, b < W.heap.size → w1.cell? ⟨b, o, none⟩ = W.cell? ⟨b, o, none⟩) ∧ (∀ b o, b < W.heap.size → w1.frozen? ⟨b, o, none⟩ = W.frozen? ⟨b, o, none⟩) :=
  ⟨fun b o h => Below.cell (p := ⟨b, o, none⟩) hb h, fun b o h => Below.frozen (p := ⟨b, o, none⟩) hb h⟩
theorem bytes_beq (a b : ByteArray) : (a.toList == b.toList) = decide (a = b) := by
  rw [Bool.eq_iff_iff, beq_iff_eq, decide_eq_true_iff, ByteArray.toList_eq, ByteArray.toList_eq]
  constructor
  · intro h
    cases a
    cases b
    simp at h
    rw [h]
  · rintro rfl
    rfl

theorem take_all_eq {α : Type} {x y : List α} (hl : x.length = y.length) (h : ∀ j (h : j < x.length) (h' : j < y.length), x[j] = y[j]) : x = y :=
  List.ext_getElem hl (fun i h1 h2 => h i h1 h2)

set_option maxRecDepth 100000 in
set_option maxHeartbeats 400000 in
theorem r06_Strings (A B : Option Addr) (c d : Nat) (x y : List ByteArray) (w : World) (S T : Nat → Prop) (hx : Strs w S A x) (hy : Strs w T B y) :
    Calls Tryz.prog 27 #[.slice A x.length c, .slice B y.length d] w (QuietB w (decide (x = y))) := by
  have hn := hx.2.1
  have hm := hy.2.1
  by_cases hl : x.length = y.length
  · have h1 : ((x.length : Int) != (y.length : Int)) = false := by simp [hl]
    have HL := Lib.hid hl
    clear hl
    go_enter Tryz.func27, Tryz.ntmps27
    go_wp2
    go_loopw [5] (fun i wr => ∃ k : Nat, k ≤ x.length ∧ i = .int .i64 k ∧ (∃ n, wr = w.drewN n) ∧ ∀ j (h : j < x.length) (h' : j < y.length), j < k → x[j] = y[j]) (fun i _ => x.length - (intOf i).toNat)
    case atStart => exact ⟨0, Nat.zero_le _, rfl, ⟨0, rfl⟩, by intros; omega⟩
    case round =>
      obtain ⟨k, hk, rfl, ⟨n, rfl⟩, hall⟩ := hrel
      have HA := Lib.hid hall
      clear hall
      by_cases hlt : k < x.length
      · have hky : k < y.length := by have := HL.out; omega
        obtain ⟨b1, o1, rfl, z1, c1⟩ := hx.at_ hlt
        obtain ⟨b2, o2, rfl, z2, c2⟩ := hy.at_ hky
        go_wp2
        go_quiet (fail)
        go_wp2
        · rename_i ht
          go_ret
          refine ⟨?_, n + _, World.drewN_drewN _ _ _⟩
          have : x ≠ y := by rintro rfl; simp at ht
          simp [this]
        · rename_i ht
          go_roundw
          case rel =>
            refine ⟨k + 1, by omega, by go_num, ⟨_, rfl⟩, fun j h h' hj => ?_⟩
            by_cases hjk : j = k
            · subst hjk
              simp only [Bool.not_eq_eq_eq_not, Bool.not_false, bytes_beq, decide_eq_true_eq] at ht
              exact ht
            · exact HA.out j h h' (by omega)
          case measure => simp [intOf]; omega
      · go_wp2
        go_ret
        refine ⟨?_, n, rfl⟩
        have : x = y := take_all_eq HL.out (fun j h h' => HA.out j h h' (by omega))
        simp [this]
  · have h1 : ((x.length : Int) != (y.length : Int)) = true := by rw [bne_iff_ne]; omega
    have h2 : x ≠ y := fun e => hl (by rw [e])
    have H2 := Lib.hid h2
    clear h2 hl
    go_enter Tryz.func27, Tryz.ntmps27
    go_wp2
    go_ret
    refine ⟨?_, 0, rfl⟩
    have := H2.out
    simp [this]

theorem Val.eq_of {x y : Val} (h : x.kind = y.kind ∧ x.s.toList = y.s.toList ∧ x.dn = y.dn ∧ x.ds = y.ds ∧ x.n = y.n) (hc : x.cols = y.cols) (hr : x.rows = y.rows) : x = y := by
  obtain ⟨h1, h2, h3, h4, h5⟩ := h
  have h2' : x.s = y.s := by
    have := bytes_beq x.s y.s
    rw [h2, beq_self_eq_true] at this
    exact of_decide_eq_true this.symm
  cases x
  cases y
  simp_all

def REq (d : Nat) : Prop := ∀ (x y : Val) (A B A' B' : Option Addr) (c e c' e' : Nat) (w : World) (S T : Nat → Prop), RV w S d x A B → RV w T d y A' B' →
  Calls Tryz.prog 15 #[(.agg #[.int .i64 x.kind, .string x.s, .int .i64 x.dn, .int .i64 x.ds, .int .i64 x.n, .slice A x.cols.length c, .slice B x.rows.length e]), (.agg #[.int .i64 y.kind, .string y.s, .int .i64 y.dn, .int .i64 y.ds, .int .i64 y.n, .slice A' y.cols.length c', .slice B' y.rows.length e'])] w (RetB w (decide (x = y)))

set_option maxRecDepth 100000 in
set_option maxHeartbeats 400000 in
theorem r06_Same (q : Nat) (ih : 0 < q → REq (q - 1)) (A B : Option Addr) (c d : Nat) (x y : List Val) (w : World) (S T : Nat → Prop) (hx : Row w S q A x) (hy : Row w T q B y) :
    Calls Tryz.prog 90 #[.slice A x.length c, .slice B y.length d] w (RetB w (decide (x = y))) := by
  have hn := hx.len
  have hm := hy.len
  by_cases hl : x.length = y.length
  · have h1 : ((x.length : Int) != (y.length : Int)) = false := by simp [hl]
    have HL := Lib.hid hl
    clear hl
    go_enter Tryz.func90, Tryz.ntmps90
    go_wp2
    go_loopw [5, 6] (fun i _ wr => ∃ k : Nat, k ≤ x.length ∧ i = .int .i64 k ∧ Ext w wr ∧ ∀ j (h : j < x.length) (h' : j < y.length), j < k → x[j] = y[j]) (fun i _ _ => x.length - (intOf i).toNat)
    case atStart => exact ⟨0, Nat.zero_le _, rfl, Ext.refl _, by intros; omega⟩
    case round =>
      obtain ⟨k, hk, rfl, hext, hall⟩ := hrel
      have HA := Lib.hid hall
      clear hall
      by_cases hlt : k < x.length
      · have hky : k < y.length := by have := HL.out; omega
        obtain ⟨b1, o1, A1, c1, B1, e1, rfl, z1, ⟨p0, p1, p2, p3, p4, p5, p6⟩, ⟨hq, _, _⟩, hv1⟩ := (hx.keep (hext.kept S)).at_ hlt
        obtain ⟨b2, o2, A2, c2, B2, e2, rfl, z2, ⟨q0, q1, q2, q3, q4, q5, q6⟩, _, hv2⟩ := (hy.keep (hext.kept T)).at_ hky
        have HE := Lib.hid hext
        clear hext
        go_wp2
        go_still_tail 8, (by kernel_rfl)
        go_wp2_with fail
        refine (ih hq _ _ _ _ _ _ _ _ _ _ _ _ _ (hv1.keep (Kept.drew _ _)) (hv2.keep (Kept.drew _ _))).mono ?_
        rintro e w' ⟨rfl, hx1⟩
        by_cases he : x[k] = y[k]
        · rw [decide_eq_true he]
          have HX := Lib.hid (HE.out.drew.trans hx1)
          have HV := Lib.hid he
          clear he hx1
          go_wp2
          go_roundw
          case rel =>
            refine ⟨k + 1, by omega, by go_num, HX.out, fun j h h' hj => ?_⟩
            by_cases hjk : j = k
            · subst hjk; exact HV.out
            · exact HA.out j h h' (by omega)
          case measure => simp [intOf]; omega
        · rw [decide_eq_false he]
          have HX := Lib.hid (HE.out.drew.trans hx1)
          have HV := Lib.hid he
          clear he hx1
          go_wp2
          go_ret
          refine ⟨?_, HX.out⟩
          have : x ≠ y := by rintro rfl; exact HV.out rfl
          simp [this]
      · have HE := Lib.hid hext
        clear hext
        go_wp2
        go_ret
        refine ⟨?_, HE.out⟩
        have : x = y := take_all_eq HL.out (fun j h h' => HA.out j h h' (by omega))
        simp [this]
  · have h1 : ((x.length : Int) != (y.length : Int)) = true := by rw [bne_iff_ne]; omega
    have h2 : x ≠ y := fun e => hl (by rw [e])
    have H2 := Lib.hid h2
    clear h2 hl
    go_enter Tryz.func90, Tryz.ntmps90
    go_wp2
    go_ret
    refine ⟨?_, Ext.refl _⟩
    have := H2.out
    simp [this]

set_option maxRecDepth 100000 in
set_option maxHeartbeats 400000 in
theorem r06_SameRows (q : Nat) (ih : 0 < q → REq (q - 1)) (A B : Option Addr) (c d : Nat) (x y : List (List Val)) (w : World) (S T : Nat → Prop) (hx : Rows w S q A x) (hy : Rows w T q B y) :
    Calls Tryz.prog 50 #[.slice A x.length c, .slice B y.length d] w (RetB w (decide (x = y))) := by
  have hn := hx.len
  have hm := hy.len
  by_cases hl : x.length = y.length
  · have h1 : ((x.length : Int) != (y.length : Int)) = false := by simp [hl]
    have HL := Lib.hid hl
    clear hl
    go_enter Tryz.func50, Tryz.ntmps50
    go_wp2
    go_loopw [5, 6] (fun i _ wr => ∃ k : Nat, k ≤ x.length ∧ i = .int .i64 k ∧ Ext w wr ∧ ∀ j (h : j < x.length) (h' : j < y.length), j < k → x[j] = y[j]) (fun i _ _ => x.length - (intOf i).toNat)
    case atStart => exact ⟨0, Nat.zero_le _, rfl, Ext.refl _, by intros; omega⟩
    case round =>
      obtain ⟨k, hk, rfl, hext, hall⟩ := hrel
      have HA := Lib.hid hall
      clear hall
      by_cases hlt : k < x.length
      · have hky : k < y.length := by have := HL.out; omega
        obtain ⟨b1, o1, A1, c1, rfl, z1, p0, _, hv1⟩ := (hx.keep (hext.kept S)).at_ hlt
        obtain ⟨b2, o2, A2, c2, rfl, z2, q0, _, hv2⟩ := (hy.keep (hext.kept T)).at_ hky
        have HE := Lib.hid hext
        clear hext
        go_wp2
        go_still_tail 8, (by kernel_rfl)
        go_wp2_with fail
        refine (r06_Same q ih _ _ _ _ _ _ _ _ _ (hv1.keep (Kept.drew _ _)) (hv2.keep (Kept.drew _ _))).mono ?_
        rintro e w' ⟨rfl, hx1⟩
        by_cases he : x[k] = y[k]
        · rw [decide_eq_true he]
          have HX := Lib.hid (HE.out.drew.trans hx1)
          have HV := Lib.hid he
          clear he hx1
          go_wp2
          go_roundw
          case rel =>
            refine ⟨k + 1, by omega, by go_num, HX.out, fun j h h' hj => ?_⟩
            by_cases hjk : j = k
            · subst hjk; exact HV.out
            · exact HA.out j h h' (by omega)
          case measure => simp [intOf]; omega
        · rw [decide_eq_false he]
          have HX := Lib.hid (HE.out.drew.trans hx1)
          have HV := Lib.hid he
          clear he hx1
          go_wp2
          go_ret
          refine ⟨?_, HX.out⟩
          have : x ≠ y := by rintro rfl; exact HV.out rfl
          simp [this]
      · have HE := Lib.hid hext
        clear hext
        go_wp2
        go_ret
        refine ⟨?_, HE.out⟩
        have : x = y := take_all_eq HL.out (fun j h h' => HA.out j h h' (by omega))
        simp [this]
  · have h1 : ((x.length : Int) != (y.length : Int)) = true := by rw [bne_iff_ne]; omega
    have h2 : x ≠ y := fun e => hl (by rw [e])
    have H2 := Lib.hid h2
    clear h2 hl
    go_enter Tryz.func50, Tryz.ntmps50
    go_wp2
    go_ret
    refine ⟨?_, Ext.refl _⟩
    have := H2.out
    simp [this]

set_option maxRecDepth 100000 in
set_option maxHeartbeats 400000 in
theorem r06_Equal_step (q : Nat) (ih : 0 < q → REq (q - 1)) : REq q := by
  intro x y A B A' B' c e c' e' w S T hx hy
  have IH := Lib.hid ih
  clear ih
  have HX := Lib.hid hx
  have HY := Lib.hid hy
  clear hx hy
  go_enter Tryz.func15, Tryz.ntmps15
  go_wp2_with fail
  case isTrue =>
    refine (r06_Strings _ _ _ _ _ _ _ S T (HX.out.strs.keep ((((Ext.refl _).alloc _).alloc _).kept _)) (HY.out.strs.keep ((((Ext.refl _).alloc _).alloc _).kept _))).mono ?_
    rintro e w1 ⟨rfl, n, rfl⟩
    have HF := Lib.hid (show x.kind = y.kind ∧ x.s.toList = y.s.toList ∧ x.dn = y.dn ∧ x.ds = y.ds ∧ x.n = y.n from ⟨‹_›, ‹_›, ‹_›, ‹_›, ‹_›⟩)
    by_cases hc : x.cols = y.cols
    · rw [decide_eq_true hc]
      have HC := Lib.hid hc
      clear hc
      go_wp2_with fail
      refine (r06_SameRows q IH.out _ _ _ _ _ _ _ S T (HX.out.rows_.keep (((((Ext.refl _).alloc _).alloc _).drewN _).kept _)) (HY.out.rows_.keep (((((Ext.refl _).alloc _).alloc _).drewN _).kept _))).mono ?_
      rintro e w2 ⟨rfl, hx2⟩
      have HW := Lib.hid (Ext.trans ((((Ext.refl w).alloc _).alloc _).drewN _) hx2)
      by_cases hr : x.rows = y.rows
      · rw [decide_eq_true hr]
        have HR := Lib.hid hr
        clear hr hx2
        go_wp2
        go_ret
        exact ⟨by rw [decide_eq_true (Val.eq_of HF.out HC.out HR.out)]; rfl, HW.out⟩
      · rw [decide_eq_false hr]
        have HR := Lib.hid hr
        clear hr hx2
        go_wp2
        go_ret
        exact ⟨by rw [decide_eq_false (fun e => HR.out (by rw [e]))]; rfl, HW.out⟩
    · rw [decide_eq_false hc]
      have HC := Lib.hid hc
      clear hc
      go_wp2
      go_ret
      exact ⟨by rw [decide_eq_false (fun e => HC.out (by rw [e]))]; rfl, (((Ext.refl _).alloc _).alloc _).drewN _⟩
  all_goals
    have hne : x ≠ y := by rintro rfl; simp_all
    go_ret
    exact ⟨by simp [hne], ((Ext.refl _).alloc _).alloc _⟩

theorem r06_Equal (q : Nat) : REq q := by
  induction q with
  | zero => exact r06_Equal_step 0 (fun h => absurd h (by omega))
  | succ q ih => exact r06_Equal_step (q + 1) (fun _ => ih)
end Go.Proofs.YtcmmkeiiapbgcaaGreatDoor
/- Equality of texts, rows and values by the program's own functions (slices.Equal, slices.EqualFunc, equalRows, value.Equal): they answer whether the data are equal. No conditions but that the arguments read as data. -/
namespace Go.Proofs.YtcmmkeiiapbgcaaGreatDoor
open Go Go.RowKit

set_option maxRecDepth 100000 in
set_option maxHeartbeats 400000 in
theorem slices_Equal (A B : Option Addr) (c d : Nat) (x y : List ByteArray) (w : World) (S T : Nat → Prop) (hx : Strs w S A x) (hy : Strs w T B y) :
    Calls Tryz.prog 122 #[.slice A x.length c, .slice B y.length d] w (QuietB w (decide (x = y))) := by
  have hn := hx.2.1
  have hm := hy.2.1
  by_cases hl : x.length = y.length
  · have h1 : ((x.length : Int) != (y.length : Int)) = false := by simp [hl]
    have HL := Lib.hid hl
    clear hl
    go_enter Tryz.func122, Tryz.ntmps122
    go_wp2
    go_loopw [13] (fun i wr => ∃ k : Nat, k ≤ x.length ∧ i = .int .i64 k ∧ (∃ n, wr = w.drewN n) ∧ ∀ j (h : j < x.length) (h' : j < y.length), j < k → x[j] = y[j]) (fun i _ => x.length - (intOf i).toNat)
    case atStart => exact ⟨0, Nat.zero_le _, rfl, ⟨0, rfl⟩, by intros; omega⟩
    case round =>
      obtain ⟨k, hk, rfl, ⟨n, rfl⟩, hall⟩ := hrel
      have HA := Lib.hid hall
      clear hall
      by_cases hlt : k < x.length
      · have hky : k < y.length := by have := HL.out; omega
        obtain ⟨b1, o1, rfl, z1, c1⟩ := hx.at_ hlt
        obtain ⟨b2, o2, rfl, z2, c2⟩ := hy.at_ hky
        go_wp2
        go_quiet (fail)
        go_wp2
        · rename_i ht
          go_ret
          refine ⟨?_, n + _, World.drewN_drewN _ _ _⟩
          have : x ≠ y := by rintro rfl; simp at ht
          simp [this]
        · rename_i ht
          go_roundw
          case rel =>
            refine ⟨k + 1, by omega, by go_num, ⟨_, rfl⟩, fun j h h' hj => ?_⟩
            by_cases hjk : j = k
            · subst hjk
              simp only [Bool.not_eq_eq_eq_not, Bool.not_false, bytes_beq, decide_eq_true_eq] at ht
              exact ht
            · exact HA.out j h h' (by omega)
          case measure => simp [intOf]; omega
      · go_wp2
        go_ret
        refine ⟨?_, n, rfl⟩
        have : x = y := take_all_eq HL.out (fun j h h' => HA.out j h h' (by omega))
        simp [this]
  · have h1 : ((x.length : Int) != (y.length : Int)) = true := by rw [bne_iff_ne]; omega
    have h2 : x ≠ y := fun e => hl (by rw [e])
    have H2 := Lib.hid h2
    clear h2 hl
    go_enter Tryz.func122, Tryz.ntmps122
    go_wp2
    go_ret
    refine ⟨?_, 0, rfl⟩
    have := H2.out
    simp [this]

def PEq (d : Nat) : Prop := ∀ (x y : Val) (A B A' B' : Option Addr) (c e c' e' : Nat) (w : World) (S T : Nat → Prop), RV w S d x A B → RV w T d y A' B' →
  Calls Tryz.prog 89 #[(.agg #[.int .i64 x.kind, .string x.s, .int .i64 x.dn, .int .i64 x.ds, .int .i64 x.n, .slice A x.cols.length c, .slice B x.rows.length e]), (.agg #[.int .i64 y.kind, .string y.s, .int .i64 y.dn, .int .i64 y.ds, .int .i64 y.n, .slice A' y.cols.length c', .slice B' y.rows.length e'])] w (RetB w (decide (x = y)))

set_option maxRecDepth 100000 in
set_option maxHeartbeats 400000 in
theorem slices_EqualFunc (q : Nat) (ih : 0 < q → PEq (q - 1)) (A B : Option Addr) (c d : Nat) (x y : List Val) (w : World) (S T : Nat → Prop) (hx : Row w S q A x) (hy : Row w T q B y) :
    Calls Tryz.prog 147 #[.slice A x.length c, .slice B y.length d, .func (.func 89) #[] #[]] w (RetB w (decide (x = y))) := by
  have hn := hx.len
  have hm := hy.len
  by_cases hl : x.length = y.length
  · have h1 : ((x.length : Int) != (y.length : Int)) = false := by simp [hl]
    have HL := Lib.hid hl
    clear hl
    go_enter Tryz.func147, Tryz.ntmps147
    go_wp2
    go_loopw [17] (fun i wr => ∃ k : Nat, k ≤ x.length ∧ i = .int .i64 k ∧ Ext w wr ∧ ∀ j (h : j < x.length) (h' : j < y.length), j < k → x[j] = y[j]) (fun i _ => x.length - (intOf i).toNat)
    case atStart => exact ⟨0, Nat.zero_le _, rfl, Ext.refl _, by intros; omega⟩
    case round =>
      obtain ⟨k, hk, rfl, hext, hall⟩ := hrel
      have HA := Lib.hid hall
      clear hall
      by_cases hlt : k < x.length
      · have hky : k < y.length := by have := HL.out; omega
        obtain ⟨b1, o1, A1, c1, B1, e1, rfl, z1, ⟨p0, p1, p2, p3, p4, p5, p6⟩, ⟨hq, _, _⟩, hv1⟩ := (hx.keep (hext.kept S)).at_ hlt
        obtain ⟨b2, o2, A2, c2, B2, e2, rfl, z2, ⟨q0, q1, q2, q3, q4, q5, q6⟩, _, hv2⟩ := (hy.keep (hext.kept T)).at_ hky
        have HE := Lib.hid hext
        clear hext
        go_wp2_with fail
        refine (ih hq _ _ _ _ _ _ _ _ _ _ _ S T (hv1.keep ((((Ext.refl _).alloc _).alloc _).kept _)) (hv2.keep ((((Ext.refl _).alloc _).alloc _).kept _))).mono ?_
        rintro e w' ⟨rfl, hx1⟩
        have HX := Lib.hid (HE.out.trans ((((Ext.refl wr).alloc _).alloc _).trans hx1))
        by_cases he : x[k] = y[k]
        · rw [decide_eq_true he]
          have HV := Lib.hid he
          clear he hx1
          go_wp2
          go_roundw
          case rel =>
            refine ⟨k + 1, by omega, by go_num, HX.out, fun j h h' hj => ?_⟩
            by_cases hjk : j = k
            · subst hjk; exact HV.out
            · exact HA.out j h h' (by omega)
          case measure => simp [intOf]; omega
        · rw [decide_eq_false he]
          have HV := Lib.hid he
          clear he hx1
          go_wp2
          go_ret
          refine ⟨?_, HX.out⟩
          have : x ≠ y := by rintro rfl; exact HV.out rfl
          simp [this]
      · have HE := Lib.hid hext
        clear hext
        go_wp2
        go_ret
        refine ⟨?_, HE.out⟩
        have : x = y := take_all_eq HL.out (fun j h h' => HA.out j h h' (by omega))
        simp [this]
  · have h1 : ((x.length : Int) != (y.length : Int)) = true := by rw [bne_iff_ne]; omega
    have h2 : x ≠ y := fun e => hl (by rw [e])
    have H2 := Lib.hid h2
    clear h2 hl
    go_enter Tryz.func147, Tryz.ntmps147
    go_wp2
    go_ret
    refine ⟨?_, Ext.refl _⟩
    have := H2.out
    simp [this]

set_option maxRecDepth 100000 in
set_option maxHeartbeats 400000 in
theorem value_equalRows (q : Nat) (ih : 0 < q → PEq (q - 1)) (A B : Option Addr) (c d : Nat) (x y : List Val) (w : World) (S T : Nat → Prop) (hx : Row w S q A x) (hy : Row w T q B y) :
    Calls Tryz.prog 124 #[.slice A x.length c, .slice B y.length d] w (RetB w (decide (x = y))) := by
  have HX := Lib.hid hx
  have HY := Lib.hid hy
  clear hx hy
  go_enter Tryz.func124, Tryz.ntmps124
  go_wp2_with fail
  refine (slices_EqualFunc q ih _ _ _ _ _ _ _ S T HX.out HY.out).mono ?_
  rintro e w' ⟨rfl, hx1⟩
  have HX1 := Lib.hid hx1
  clear hx1
  go_wp2
  go_ret
  exact ⟨rfl, HX1.out⟩

set_option maxRecDepth 100000 in
set_option maxHeartbeats 400000 in
theorem slices_EqualFunc2 (q : Nat) (ih : 0 < q → PEq (q - 1)) (A B : Option Addr) (c d : Nat) (x y : List (List Val)) (w : World) (S T : Nat → Prop) (hx : Rows w S q A x) (hy : Rows w T q B y) :
    Calls Tryz.prog 123 #[.slice A x.length c, .slice B y.length d, .func (.func 124) #[] #[]] w (RetB w (decide (x = y))) := by
  have hn := hx.len
  have hm := hy.len
  by_cases hl : x.length = y.length
  · have h1 : ((x.length : Int) != (y.length : Int)) = false := by simp [hl]
    have HL := Lib.hid hl
    clear hl
    go_enter Tryz.func123, Tryz.ntmps123
    go_wp2
    go_loopw [17] (fun i wr => ∃ k : Nat, k ≤ x.length ∧ i = .int .i64 k ∧ Ext w wr ∧ ∀ j (h : j < x.length) (h' : j < y.length), j < k → x[j] = y[j]) (fun i _ => x.length - (intOf i).toNat)
    case atStart => exact ⟨0, Nat.zero_le _, rfl, Ext.refl _, by intros; omega⟩
    case round =>
      obtain ⟨k, hk, rfl, hext, hall⟩ := hrel
      have HA := Lib.hid hall
      clear hall
      by_cases hlt : k < x.length
      · have hky : k < y.length := by have := HL.out; omega
        obtain ⟨b1, o1, A1, c1, rfl, z1, p0, _, hv1⟩ := (hx.keep (hext.kept S)).at_ hlt
        obtain ⟨b2, o2, A2, c2, rfl, z2, q0, _, hv2⟩ := (hy.keep (hext.kept T)).at_ hky
        have HE := Lib.hid hext
        clear hext
        go_wp2_with fail
        refine (value_equalRows q ih _ _ _ _ _ _ _ S T hv1 hv2).mono ?_
        rintro e w' ⟨rfl, hx1⟩
        have HX := Lib.hid (HE.out.trans hx1)
        by_cases he : x[k] = y[k]
        · rw [decide_eq_true he]
          have HV := Lib.hid he
          clear he hx1
          go_wp2
          go_roundw
          case rel =>
            refine ⟨k + 1, by omega, by go_num, HX.out, fun j h h' hj => ?_⟩
            by_cases hjk : j = k
            · subst hjk; exact HV.out
            · exact HA.out j h h' (by omega)
          case measure => simp [intOf]; omega
        · rw [decide_eq_false he]
          have HV := Lib.hid he
          clear he hx1
          go_wp2
          go_ret
          refine ⟨?_, HX.out⟩
          have : x ≠ y := by rintro rfl; exact HV.out rfl
          simp [this]
      · have HE := Lib.hid hext
        clear hext
        go_wp2
        go_ret
        refine ⟨?_, HE.out⟩
        have : x = y := take_all_eq HL.out (fun j h h' => HA.out j h h' (by omega))
        simp [this]
  · have h1 : ((x.length : Int) != (y.length : Int)) = true := by rw [bne_iff_ne]; omega
    have h2 : x ≠ y := fun e => hl (by rw [e])
    have H2 := Lib.hid h2
    clear h2 hl
    go_enter Tryz.func123, Tryz.ntmps123
    go_wp2
    go_ret
    refine ⟨?_, Ext.refl _⟩
    have := H2.out
    simp [this]

set_option maxRecDepth 100000 in
set_option maxHeartbeats 400000 in
theorem value_Equal_step (q : Nat) (ih : 0 < q → PEq (q - 1)) : PEq q := by
  intro x y A B A' B' c e c' e' w S T hx hy
  have IH := Lib.hid ih
  clear ih
  have HX := Lib.hid hx
  have HY := Lib.hid hy
  clear hx hy
  go_enter Tryz.func89, Tryz.ntmps89
  go_wp2_with fail
  rotate_left
  · refine (slices_Equal _ _ _ _ _ _ _ S T (HX.out.strs.keep ((((Ext.refl _).alloc _).alloc _).kept _)) (HY.out.strs.keep ((((Ext.refl _).alloc _).alloc _).kept _))).mono ?_
    rintro e w1 ⟨rfl, n, rfl⟩
    have hnn : x.n = y.n := by simp_all
    have HF := Lib.hid (show x.kind = y.kind ∧ x.s.toList = y.s.toList ∧ x.dn = y.dn ∧ x.ds = y.ds ∧ x.n = y.n from ⟨‹_›, ‹_›, ‹_›, ‹_›, ‹_›⟩)
    by_cases hc : x.cols = y.cols
    · rw [decide_eq_true hc]
      have HC := Lib.hid hc
      clear hc hnn
      go_wp2_with fail
      refine (slices_EqualFunc2 q IH.out _ _ _ _ _ _ _ S T (HX.out.rows_.keep (((((Ext.refl _).alloc _).alloc _).drewN _).kept _)) (HY.out.rows_.keep (((((Ext.refl _).alloc _).alloc _).drewN _).kept _))).mono ?_
      rintro e w2 ⟨rfl, hx2⟩
      have HW := Lib.hid (Ext.trans ((((Ext.refl w).alloc _).alloc _).drewN _) hx2)
      by_cases hr : x.rows = y.rows
      · rw [decide_eq_true hr]
        have HR := Lib.hid hr
        clear hr hx2
        go_wp2
        go_ret
        exact ⟨by rw [decide_eq_true (Val.eq_of HF.out HC.out HR.out)]; rfl, HW.out⟩
      · rw [decide_eq_false hr]
        have HR := Lib.hid hr
        clear hr hx2
        go_wp2
        go_ret
        exact ⟨by rw [decide_eq_false (fun e => HR.out (by rw [e]))]; rfl, HW.out⟩
    · rw [decide_eq_false hc]
      have HC := Lib.hid hc
      clear hc hnn
      go_wp2
      go_ret
      exact ⟨by rw [decide_eq_false (fun e => HC.out (by rw [e]))]; rfl, (((Ext.refl _).alloc _).alloc _).drewN _⟩
  all_goals
    have hne : x ≠ y := by rintro rfl; simp_all
    go_ret
    exact ⟨by simp [hne], ((Ext.refl _).alloc _).alloc _⟩

theorem value_Equal (q : Nat) : PEq q := by
  induction q with
  | zero => exact value_Equal_step 0 (fun h => absurd h (by omega))
  | succ q ih => exact value_Equal_step (q + 1) (fun _ => ih)
end Go.Proofs.YtcmmkeiiapbgcaaGreatDoor
/- Slices of the call's own that grow: one law for append, and what such a slice of texts, ints, values or rows reads as. No conditions. -/
namespace Go.Proofs.YtcmmkeiiapbgcaaGreatDoor
open Go Go.RowKit

/-- A slice of the call's own: from block base on, element type e of sz cells. -/
def Own (w : World) (base e sz : Nat) (A : Option Addr) (n c : Nat) (xs : List Value) : Prop := w.ownsRow base e sz (.slice A n c) n xs
/-- The block of a slice. -/
def ob (A : Option Addr) : Option Nat := A.map (·.block)
theorem ob_eq (A : Option Addr) (n c : Nat) : (Value.slice A n c).ownBlock = ob A := by cases A <;> rfl
/-- What the table says of a slice type t with elements e of sz cells and by bytes. -/
def TI (P : Program) (t e sz by_ : Nat) : Prop := P.underlying t = some (.slice e) ∧ ∃ i z, P.info? e = some i ∧ i.zero = some z ∧ i.size = sz ∧ i.bytes = by_ ∧ z.cells.size = sz ∧ 0 < sz
section
variable {w w' : World} {base e sz n c : Nat} {A : Option Addr} {xs : List Value}
theorem Own.nil (w : World) (base e sz : Nat) : Own w base e sz none 0 0 [] := World.ownsRow_nil w base e sz
theorem Own.len (h : Own w base e sz A n c xs) : xs.length = n * sz := h.1
theorem Own.blk (h : Own w base e sz A n c xs) {k : Nat} (hk : ob A = some k) : base ≤ k ∧ k < w.heap.size := World.ownsRow.lt h k (by rw [ob_eq]; exact hk)
theorem Own.cap (h : Own w base e sz A n c xs) : n ≤ c := by
  rcases h.2 with ⟨hv, hn⟩ | ⟨g, cap, cur, hv, _, _, hnc, _⟩
  · rw [hn]; exact Nat.zero_le _
  · injection hv with _ _ h2
    rw [h2]; exact hnc
theorem Own.kept {row : Option Nat} (h : Own w base e sz A n c xs) (hg : w.grownBy w' row) (hne : ob A = none ∨ ob A ≠ row) : Own w' base e sz A n c xs :=
  World.ownsRow.kept h hg (by rw [ob_eq]; exact hne)
theorem Own.ext (h : Own w base e sz A n c xs) (hx : Ext w w') : Own w' base e sz A n c xs := by
  refine ⟨h.1, ?_⟩
  rcases h.2 with h2 | ⟨g, cap, cur, hv, hb, hh, r⟩
  · exact Or.inl h2
  · refine Or.inr ⟨g, cap, cur, hv, hb, ?_, r⟩
    have hlt : g < w.heap.size := by
      rcases Nat.lt_or_ge g w.heap.size with h1 | h1
      · exact h1
      · rw [Array.getElem?_eq_none h1] at hh; cases hh
    rw [hx.block g hlt]; exact hh
theorem Own.rd (h : Own w base e sz A n c xs) : Rd w (fun b => ob A = some b) A xs := by
  rcases Rd.of_own h with h0 | ⟨b, o, h1, h2, h3, h4⟩
  · exact Or.inl h0
  · exact Or.inr ⟨b, o, h1, by subst h1; rfl, h3, h4⟩
theorem Own.set (h : Own w base e sz A n c xs) {p : Addr} (hp : ob A ≠ some p.block) (u : Value) : Own (w.setCell p u) base e sz A n c xs := by
  refine ⟨h.1, ?_⟩
  rcases h.2 with h2 | ⟨g, cap, cur, hv, hb, hh, r⟩
  · exact Or.inl h2
  · refine Or.inr ⟨g, cap, cur, hv, hb, ?_, r⟩
    rw [Below.heap_setCell _ _ _ _ (fun e => hp (by
      have hA : A = some ⟨g, 0, none⟩ := by injection hv
      subst hA
      exact congrArg some e))]
    exact hh
theorem Own.keep (h : Own w base e sz A n c xs) (hk : Kept (fun b => ob A = some b) w w') : Own w' base e sz A n c xs := by
  refine ⟨h.1, ?_⟩
  rcases h.2 with h2 | ⟨g, cap, cur, hv, hb, hh, r⟩
  · exact Or.inl h2
  · refine Or.inr ⟨g, cap, cur, hv, hb, ?_, r⟩
    have hA : A = some ⟨g, 0, none⟩ := by injection hv
    have hlt : g < w.heap.size := by
      rcases Nat.lt_or_ge g w.heap.size with h1 | h1
      · exact h1
      · rw [Array.getElem?_eq_none h1] at hh; cases hh
    rw [hk.2 g (by rw [hA]; rfl) hlt]; exact hh
theorem Own.made (w : World) (e sz cap : Nat) (cur : Array Value) (hm : cap ≤ maxLen) (hs : cur.size = cap * sz) :
    Own (w.alloc (.cells cur e)) w.heap.size e sz (some ⟨w.heap.size, 0, none⟩) 0 cap [] :=
  World.ownsRow_made w cur cap (Nat.le_refl _) hm hs
theorem Own.lower {base' : Nat} (h : Own w base e sz A n c xs) (hb : base' ≤ base) : Own w base' e sz A n c xs := by
  refine ⟨h.1, ?_⟩
  rcases h.2 with h2 | ⟨g, cap, cur, hv, hb', r⟩
  · exact Or.inl h2
  · exact Or.inr ⟨g, cap, cur, hv, Nat.le_trans hb hb', r⟩

theorem run_app {P : Program} (w : World) {t by_ : Nat} (ty : TypeId) (ti : TI P t e sz by_) (hown : Own w base e sz A n c xs) {S : Nat → Prop} {B : Option Addr} {m c2 : Nat} {news : List Value}
    (hr : Rd w S B news) (hl : news.length = m * sz) (h1 : ∀ u ∈ news, u.oneCell' = true) (h63 : (n + m) * by_ ≤ 140737488355328) (hby : 0 < by_) (hbase : base ≤ w.heap.size) :
    ∃ A' c' w', (Builtin.append_ #[t, t] ty #[.slice A n c, .slice B m c2]).run P w = .ok (.slice A' (n + m) c') w' ∧ Own w' base e sz A' (n + m) c' (xs ++ news) ∧ w.grownBy w' (ob A) ∧
      (ob A' = ob A ∨ ob A' = some w.heap.size) := by
  obtain ⟨ht, i, z, hi, hz, hsize, hbytes, hzs, hsz⟩ := ti
  have hnm : n + m ≤ 140737488355328 := by
    have : (n + m) * 1 ≤ (n + m) * by_ := Nat.mul_le_mul_left _ hby
    omega
  have hform : ∀ {w' : World} {v : Value}, w'.ownsRow base e sz v (n + m) (xs ++ news) → ∃ A' c', v = .slice A' (n + m) c' := by
    intro w' v h
    rcases h.2 with ⟨rfl, h0⟩ | ⟨g, cap, cur, rfl, _⟩
    · exact ⟨none, 0, by rw [h0]⟩
    · exact ⟨_, _, rfl⟩
  by_cases hm : m = 0
  · subst hm
    have hn : news = [] := List.eq_nil_of_length_eq_zero (by simpa using hl)
    subst hn
    refine ⟨A, c, w, ?_, by simpa using hown, ⟨rfl, rfl, rfl, Nat.le_refl _, fun _ _ _ => rfl⟩, .inl rfl⟩
    rcases hown.2 with ⟨hv, h0⟩ | ⟨g, cap, cur, hv, _, _, hnc, _⟩
    · injection hv with h1 _ h2
      subst h1
      subst h2
      subst h0
      cases B <;> simp [Builtin.append_, run_underlying ht, sizeOf, typeInfo, hi, Builtin.lenOf, Builtin.firstCells, loadCells, loadCellsFrom]
    · injection hv with h1 _ h2
      subst h1
      subst h2
      cases B <;> simp [Builtin.append_, run_underlying ht, sizeOf, typeInfo, hi, Builtin.lenOf, Builtin.firstCells, hnc, storeCells, loadCells, loadCellsFrom]
  · have hne : news ≠ [] := by
      intro h0
      subst h0
      have := Nat.mul_eq_zero.1 (show m * sz = 0 from hl.symm)
      omega
    obtain ⟨b, o, rfl, _, _, hc⟩ := hr.some_ hne
    obtain ⟨v', w', hrun, h2, h3, _, h5⟩ := run_append_own_at (P := P) w base t ty e i z sz by_ ht hi hz hsize hbytes hzs hsz (.slice A n c) n xs hown ⟨b, o, none⟩ m c2 news hl
      (fun j u hj => by rw [Addr.add_lit]; exact hc j u hj) h1 (by unfold maxLen; omega) h63 hbase
    obtain ⟨A', c', rfl⟩ := hform h2
    rw [ob_eq] at h3 h5
    rw [ob_eq] at h5
    exact ⟨A', c', w', hrun, h2, h3, h5⟩

/-- append at the list of operations. -/
theorem wpList_app {P : Program} {ops : Array Oper} {rest : List Oper} {o : Oper} {a : Act} {Q : Exit → Act → World → Prop} (hgd : o.guard = none) (s x : Operand) {t by_ : Nat}
    (ho : o.op = .call { callee := .builtin .append, args := #[s, x], argTypes := #[t, t] }) (ti : TI P t e sz by_) (hs : a.eval s = .slice A n c) (hown : Own w base e sz A n c xs)
    {S : Nat → Prop} {B : Option Addr} {m c2 : Nat} {news : List Value} (hx : a.eval x = .slice B m c2) (hr : Rd w S B news) (hl : news.length = m * sz) (h1 : ∀ u ∈ news, u.oneCell' = true)
    (h63 : (n + m) * by_ ≤ 140737488355328) (hby : 0 < by_) (hbase : base ≤ w.heap.size)
    (h : ∀ A' c' w', Own w' base e sz A' (n + m) c' (xs ++ news) → w.grownBy w' (ob A) → (ob A' = ob A ∨ ob A' = some w.heap.size) → wpList P ops Q rest (a.put o.dst (.slice A' (n + m) c')) w') :
    wpList P ops Q (o :: rest) a w := by
  obtain ⟨A', c', w', hrun, h2, h3, h4⟩ := run_app w o.type ti hown (c2 := c2) hr hl h1 h63 hby hbase
  refine wpList_plain hgd fun K hK => ?_
  unfold Oper.wp execOp
  simp only [ho, resolve, invoke, builtin, Sem.run_bind, Sem.run_pure, Result.andThen_ok, List.map_toArray, List.map_cons, List.map_nil, hs, hx, hrun]
  exact hK _ _ (h A' c' w' h2 h3 h4)
end

/-- A block that is known whole. -/
def Blk (w : World) (g t : Nat) (cs : Array Value) : Prop := w.heap[g]? = some (.cells cs t (0, 0))
theorem Blk.lt {w : World} {g t : Nat} {cs : Array Value} (h : Blk w g t cs) : g < w.heap.size := by
  rcases Nat.lt_or_ge g w.heap.size with hlt | hge
  · exact hlt
  · unfold Blk at h; rw [Array.getElem?_eq_none hge] at h; cases h
theorem Blk.cell {w : World} {g t : Nat} {cs : Array Value} (h : Blk w g t cs) {i : Nat} {u : Value} (hi : cs[i]? = some u) : w.cell? ⟨g, i, none⟩ = some u := by
  unfold Blk at h
  simp [World.cell?, h, hi]
theorem Blk.frozen {w : World} {g t : Nat} {cs : Array Value} (h : Blk w g t cs) (i : Nat) : w.frozen? ⟨g, i, none⟩ = false := by
  unfold Blk at h
  simp [World.frozen?, h]
theorem Blk.keep {w w' : World} {g t : Nat} {cs : Array Value} (h : Blk w g t cs) (hk : Kept (fun b => b = g) w w') : Blk w' g t cs := (hk.2 g rfl h.lt).trans h
theorem Blk.new (w : World) (t : Nat) (cs : Array Value) : Blk (w.alloc (.cells cs t)) w.heap.size t cs := heap_alloc_new w _
theorem Blk.set {w : World} {g t : Nat} {cs : Array Value} (h : Blk w g t cs) (i : Nat) (u : Value) : Blk (w.setCell ⟨g, i, none⟩ u) g t (cs.setIfInBounds i u) := by
  unfold Blk at h ⊢
  simp [World.setCell, Array.getElem?_modify, h]
theorem Blk.rd {w : World} {g t : Nat} {cs : Array Value} (h : Blk w g t cs) : Rd w (fun b => b = g) (some ⟨g, 0, none⟩) cs.toList :=
  Or.inr ⟨g, 0, rfl, rfl, h.lt, fun j u hj => by rw [Nat.zero_add]; exact h.cell (by simpa using hj)⟩
theorem Kept.of_below {w w' : World} {B : Nat} {S : Nat → Prop} (h : Below B w w') (hS : ∀ b, S b → b < w.heap.size → b < B) : Kept S w w' := ⟨h.size, fun b hb hl => h.block b (hS b hb hl)⟩

/-- The cells xs read as the values l, R being asked of each. -/
def VL (R : Val → List Value → Prop) (xs : List Value) (l : List Val) : Prop := xs.length = l.length * 7 ∧ ∀ (j : Nat) (y : Val), l[j]? = some y → R y ((xs.drop (j * 7)).take 7)
theorem VL.nil (R : Val → List Value → Prop) : VL R [] [] := ⟨rfl, by simp⟩
theorem VL.imp {R R' : Val → List Value → Prop} {xs : List Value} {l : List Val} (h : VL R xs l) (f : ∀ y cs, R y cs → R' y cs) : VL R' xs l := ⟨h.1, fun j y hj => f _ _ (h.2 j y hj)⟩
theorem VL.snoc {R : Val → List Value → Prop} {xs cs : List Value} {l : List Val} {y : Val} (h : VL R xs l) (hc : cs.length = 7) (hy : R y cs) : VL R (xs ++ cs) (l ++ [y]) := by
  refine ⟨by simp [h.1, hc]; omega, fun j z hj => ?_⟩
  rcases Nat.lt_or_ge j l.length with hlt | hge
  · rw [List.getElem?_append_left hlt] at hj
    have hz := h.2 j z hj
    have hx := h.1
    rw [List.drop_append_of_le_length (by omega), List.take_append_of_le_length (by simp; omega)]
    exact hz
  · rw [List.getElem?_append_right hge] at hj
    have hj0 : j - l.length = 0 := by
      rcases Nat.eq_zero_or_pos (j - l.length) with h0 | h0
      · exact h0
      · rw [List.getElem?_eq_none (by simp; omega)] at hj
        cases hj
    rw [hj0] at hj
    simp at hj
    subst hj
    have : j = l.length := by omega
    subst this
    rw [← h.1, List.drop_left, List.take_of_length_le (by omega)]
    exact hy
theorem VL.append {R : Val → List Value → Prop} {xs ys : List Value} {l m : List Val} (h : VL R xs l) (k : VL R ys m) : VL R (xs ++ ys) (l ++ m) := by
  refine ⟨by simp [h.1, k.1]; omega, fun j z hj => ?_⟩
  rcases Nat.lt_or_ge j l.length with hlt | hge
  · rw [List.getElem?_append_left hlt] at hj
    have hz := h.2 j z hj
    have hx := h.1
    rw [List.drop_append_of_le_length (by omega), List.take_append_of_le_length (by simp; omega)]
    exact hz
  · rw [List.getElem?_append_right hge] at hj
    have hz := k.2 _ z hj
    have hx := h.1
    rw [show j * 7 = xs.length + (j - l.length) * 7 by omega, ← List.drop_drop, List.drop_left]
    exact hz
theorem RVs.iff {R : Val → List Value → Prop} {w : World} {S : Nat → Prop} {A : Option Addr} {l : List Val} : RVs R w S A l ↔ l.length ≤ 4294967296 ∧ ∃ xs, Rd w S A xs ∧ VL R xs l := Iff.rfl

/-- What is asked of a value in a row: its columns and rows lie in blocks of S. -/
def CV (w : World) (S : Nat → Prop) (d : Nat) (y : Val) (cs : List Value) : Prop := ∃ A c B e, cs = vcells y A c B e ∧ (0 < d ∧ y.cols.length ≤ c ∧ y.rows.length ≤ e) ∧ RV w S (d - 1) y A B
theorem CV.keep {w w' : World} {S : Nat → Prop} {d : Nat} {y : Val} {cs : List Value} (h : CV w S d y cs) (k : Kept S w w') : CV w' S d y cs := by
  obtain ⟨A, c, B, e, h1, h2, h3⟩ := h
  exact ⟨A, c, B, e, h1, h2, h3.keep k⟩
theorem CV.mono {w : World} {S T : Nat → Prop} {d : Nat} {y : Val} {cs : List Value} (h : CV w S d y cs) (k : ∀ i, i < w.heap.size → S i → T i) : CV w T d y cs := by
  obtain ⟨A, c, B, e, h1, h2, h3⟩ := h
  exact ⟨A, c, B, e, h1, h2, h3.mono k⟩
theorem RV.move {w w' : World} {S T : Nat → Prop} {d : Nat} {x : Val} {A B : Option Addr} (h : RV w S d x A B) (k : Kept S w w') (m : ∀ i, i < w.heap.size → S i → T i) : RV w' T d x A B :=
  ((h.mono (T := fun b => S b ∧ T b) fun i hi hs => ⟨hs, m i hi hs⟩).keep (k.mono fun _ _ hh => hh.1)).mono fun _ _ hh => hh.2
theorem Row.move {w w' : World} {S T : Nat → Prop} {d : Nat} {l : List Val} {B : Option Addr} (h : Row w S d B l) (k : Kept S w w') (m : ∀ i, i < w.heap.size → S i → T i) : Row w' T d B l :=
  ((Row.mono h (T := fun b => S b ∧ T b) fun i hi hs => ⟨hs, m i hi hs⟩).keep (k.mono fun _ _ hh => hh.1)).mono fun _ _ hh => hh.2
theorem CV.move {w w' : World} {S T : Nat → Prop} {d : Nat} {y : Val} {cs : List Value} (h : CV w S d y cs) (k : Kept S w w') (m : ∀ i, i < w.heap.size → S i → T i) : CV w' T d y cs := by
  obtain ⟨A, c, B, e, h1, h2, h3⟩ := h
  exact ⟨A, c, B, e, h1, h2, h3.move k m⟩
theorem vcells_one {x : Val} {A B : Option Addr} {c e : Nat} : ∀ u ∈ vcells x A c B e, u.oneCell' = true := by
  intro u hu
  simp [vcells] at hu
  rcases hu with rfl | rfl | rfl | rfl | rfl | rfl | rfl <;> rfl
theorem CV.one {w : World} {S : Nat → Prop} {d : Nat} {y : Val} {cs : List Value} (h : CV w S d y cs) : cs.length = 7 ∧ ∀ u ∈ cs, u.oneCell' = true := by
  obtain ⟨A, c, B, e, rfl, _⟩ := h
  exact ⟨rfl, vcells_one⟩
theorem VL.one {w : World} {S : Nat → Prop} {d : Nat} {xs : List Value} {l : List Val} (h : VL (CV w S d) xs l) : ∀ u ∈ xs, u.oneCell' = true := by
  intro u hu
  obtain ⟨i, hi, rfl⟩ := List.mem_iff_getElem.1 hu
  have hx := h.1
  have hj : i / 7 < l.length := by omega
  have h7 := (h.2 (i / 7) _ (List.getElem?_eq_getElem hj)).one.2
  refine h7 _ (List.mem_iff_getElem.2 ⟨i % 7, ?_, ?_⟩)
  · simp; omega
  · rw [List.getElem_take, List.getElem_drop]
    congr 1
    omega

/-- A slice of values of the call's own; the values' own memory lies outside it, in blocks of X. -/
def OwnVs (w : World) (base : Nat) (X : Nat → Prop) (d : Nat) (A : Option Addr) (c : Nat) (l : List Val) : Prop :=
  ∃ xs, Own w base 33 7 A l.length c xs ∧ VL (CV w (fun b => ob A ≠ some b ∧ X b) d) xs l
/-- A slice of rows of the call's own. -/
def OwnRs (w : World) (base : Nat) (X : Nat → Prop) (d : Nat) (A : Option Addr) (c : Nat) (l : List (List Val)) : Prop :=
  ∃ hs, Own w base 45 1 A l.length c hs ∧ ∀ (i : Nat) (r : List Val), l[i]? = some r → ∃ (B : Option Addr) (e : Nat), hs[i]? = some (Value.slice B r.length e) ∧ r.length ≤ e ∧ Row w (fun b => ob A ≠ some b ∧ X b) d B r
/-- A slice of texts of the call's own. -/
def OwnSs (w : World) (base : Nat) (A : Option Addr) (c : Nat) (l : List ByteArray) : Prop := Own w base 9 1 A l.length c (l.map Value.string) ∧ ∀ s ∈ l, s.size ≤ 4294967296
/-- A slice of ints of the call's own. -/
def OwnIs (w : World) (base : Nat) (A : Option Addr) (c : Nat) (l : List Int) : Prop := Own w base 3 1 A l.length c (l.map (Value.int .i64))

section
variable {w w' : World} {base c c' d : Nat} {X T : Nat → Prop} {A A' : Option Addr}
theorem OwnVs.nil (w : World) (base : Nat) (X : Nat → Prop) (d : Nat) : OwnVs w base X d none 0 [] := ⟨[], Own.nil _ _ _ _, VL.nil _⟩
theorem OwnVs.ext {l : List Val} (h : OwnVs w base X d A c l) (hx : Ext w w') : OwnVs w' base X d A c l := by
  obtain ⟨xs, h1, h2⟩ := h
  exact ⟨xs, h1.ext hx, h2.imp fun _ _ hh => hh.keep (hx.kept _)⟩
theorem OwnVs.keep {l : List Val} (h : OwnVs w base X d A c l) (hk : Kept (fun b => ob A = some b ∨ X b) w w') : OwnVs w' base X d A c l := by
  obtain ⟨xs, h1, h2⟩ := h
  exact ⟨xs, h1.keep (hk.mono fun _ _ hh => Or.inl hh), h2.imp fun _ _ hh => hh.keep (hk.mono fun _ _ hh => Or.inr hh.2)⟩
theorem OwnVs.push {l : List Val} {y : Val} {A1 B1 : Option Addr} {c1 e1 : Nat} {xs : List Value} (hv : VL (CV w (fun b => ob A ≠ some b ∧ X b) d) xs l) (hown : Own w' base 33 7 A' (l.length + 1) c' (xs ++ vcells y A1 c1 B1 e1))
    (hg : w.grownBy w' (ob A)) (hat : ob A' = ob A ∨ ob A' = some w.heap.size) (hd : 0 < d ∧ y.cols.length ≤ c1 ∧ y.rows.length ≤ e1) (hy : RV w (fun b => ob A ≠ some b ∧ X b) (d - 1) y A1 B1) : OwnVs w' base X d A' c' (l ++ [y]) := by
  have hk : Kept (fun b => ob A ≠ some b ∧ X b) w w' := Kept.of_grown hg (fun b hb _ e => hb.1 e.symm)
  have hm : ∀ i, i < w.heap.size → (ob A ≠ some i ∧ X i) → (ob A' ≠ some i ∧ X i) := by
    rintro i hi ⟨h1, h2⟩
    refine ⟨?_, h2⟩
    rcases hat with e | e <;> rw [e]
    · exact h1
    · intro h; injection h with h; omega
  refine ⟨_, by simpa using hown, ?_⟩
  exact VL.snoc (hv.imp fun _ _ hh => hh.move hk hm) rfl ⟨_, _, _, _, rfl, hd, hy.move hk hm⟩
theorem OwnVs.row {l : List Val} (h : OwnVs w base X d A c l) (hl : l.length ≤ 4294967296) (h1 : ∀ b, ob A = some b → T b) (h2 : ∀ b, X b → T b) : Row w T d A l := by
  obtain ⟨xs, ho, hv⟩ := h
  exact ⟨hl, xs, ho.rd.mono fun i _ hi => h1 i hi, hv.1, fun j y hj => (hv.2 j y hj).mono fun i _ hi => h2 i hi.2⟩
theorem OwnVs.blk {l : List Val} (h : OwnVs w base X d A c l) {k : Nat} (hk : ob A = some k) : base ≤ k ∧ k < w.heap.size := by
  obtain ⟨xs, ho, _⟩ := h
  exact ho.blk hk
theorem OwnVs.lower {base' : Nat} {l : List Val} (h : OwnVs w base X d A c l) (hb : base' ≤ base) : OwnVs w base' X d A c l := by
  obtain ⟨xs, h1, h2⟩ := h
  exact ⟨xs, h1.lower hb, h2⟩
theorem OwnRs.nil (w : World) (base : Nat) (X : Nat → Prop) (d : Nat) : OwnRs w base X d none 0 [] := ⟨[], Own.nil _ _ _ _, by simp⟩
theorem OwnRs.ext {l : List (List Val)} (h : OwnRs w base X d A c l) (hx : Ext w w') : OwnRs w' base X d A c l := by
  obtain ⟨hs, h1, h2⟩ := h
  refine ⟨hs, h1.ext hx, fun i r hr => ?_⟩
  obtain ⟨B, e, h3, hcp, h4⟩ := h2 i r hr
  exact ⟨B, e, h3, hcp, Row.keep h4 (hx.kept _)⟩
theorem OwnRs.keep {l : List (List Val)} (h : OwnRs w base X d A c l) (hk : Kept (fun b => ob A = some b ∨ X b) w w') : OwnRs w' base X d A c l := by
  obtain ⟨hs, h1, h2⟩ := h
  refine ⟨hs, h1.keep (hk.mono fun _ _ hh => Or.inl hh), fun i r hr => ?_⟩
  obtain ⟨B, e, h3, hcp, h4⟩ := h2 i r hr
  exact ⟨B, e, h3, hcp, Row.keep h4 (hk.mono fun _ _ hh => Or.inr hh.2)⟩
theorem OwnRs.mono {l : List (List Val)} (h : OwnRs w base X d A c l) (hm : ∀ b, b < w.heap.size → X b → T b) : OwnRs w base T d A c l := by
  obtain ⟨hs, h1, h2⟩ := h
  refine ⟨hs, h1, fun i r hr => ?_⟩
  obtain ⟨B, e, h3, hcp, h4⟩ := h2 i r hr
  exact ⟨B, e, h3, hcp, Row.mono h4 fun i hi hh => ⟨hh.1, hm i hi hh.2⟩⟩
theorem OwnVs.mono {l : List Val} (h : OwnVs w base X d A c l) (hm : ∀ b, b < w.heap.size → X b → T b) : OwnVs w base T d A c l := by
  obtain ⟨xs, h1, h2⟩ := h
  exact ⟨xs, h1, h2.imp fun _ _ hh => hh.mono fun i hi hh => ⟨hh.1, hm i hi hh.2⟩⟩
theorem OwnRs.push {l : List (List Val)} {r : List Val} {B : Option Addr} {e : Nat} {hs : List Value} (ho : hs.length = l.length)
    (hv : ∀ (i : Nat) (r : List Val), l[i]? = some r → ∃ (B : Option Addr) (e : Nat), hs[i]? = some (Value.slice B r.length e) ∧ r.length ≤ e ∧ Row w (fun b => ob A ≠ some b ∧ X b) d B r)
    (hown : Own w' base 45 1 A' (l.length + 1) c' (hs ++ [Value.slice B r.length e])) (hg : w.grownBy w' (ob A)) (hat : ob A' = ob A ∨ ob A' = some w.heap.size)
    (hre : r.length ≤ e) (hy : Row w (fun b => ob A ≠ some b ∧ X b) d B r) : OwnRs w' base X d A' c' (l ++ [r]) := by
  have hk : Kept (fun b => ob A ≠ some b ∧ X b) w w' := Kept.of_grown hg (fun b hb _ e => hb.1 e.symm)
  have hm : ∀ i, i < w.heap.size → (ob A ≠ some i ∧ X i) → (ob A' ≠ some i ∧ X i) := by
    rintro i hi ⟨h1, h2⟩
    refine ⟨?_, h2⟩
    rcases hat with e | e <;> rw [e]
    · exact h1
    · intro h; injection h with h; omega
  refine ⟨_, by simpa using hown, fun i r' hr => ?_⟩
  rcases Nat.lt_or_ge i l.length with hlt | hge
  · rw [List.getElem?_append_left hlt] at hr
    obtain ⟨B', e', h3, hcp, h4⟩ := hv i r' hr
    exact ⟨B', e', by rw [List.getElem?_append_left (by omega)]; exact h3, hcp, Row.move h4 hk hm⟩
  · rw [List.getElem?_append_right hge] at hr
    have hj0 : i - l.length = 0 := by
      rcases Nat.eq_zero_or_pos (i - l.length) with h0 | h0
      · exact h0
      · rw [List.getElem?_eq_none (by simp; omega)] at hr
        cases hr
    rw [hj0] at hr
    simp at hr
    subst hr
    exact ⟨B, e, by rw [List.getElem?_append_right (by omega), ho, hj0]; rfl, hre, Row.move hy hk hm⟩
theorem OwnRs.rows {l : List (List Val)} (h : OwnRs w base X d A c l) (hl : l.length ≤ 4294967296) (h1 : ∀ b, ob A = some b → T b) (h2 : ∀ b, X b → T b) : Rows w T d A l := by
  obtain ⟨hs, ho, hv⟩ := h
  refine ⟨hl, hs, ho.rd.mono fun i _ hi => h1 i hi, by simpa using ho.len, fun i r hr => ?_⟩
  obtain ⟨B, e, h3, hcp, h4⟩ := hv i r hr
  exact ⟨B, e, h3, hcp, Row.mono h4 fun i _ hi => h2 i hi.2⟩
theorem OwnRs.blk {l : List (List Val)} (h : OwnRs w base X d A c l) {k : Nat} (hk : ob A = some k) : base ≤ k ∧ k < w.heap.size := by
  obtain ⟨xs, ho, _⟩ := h
  exact ho.blk hk
theorem OwnSs.nil (w : World) (base : Nat) : OwnSs w base none 0 [] := ⟨Own.nil _ _ _ _, by simp⟩
theorem OwnSs.ext {l : List ByteArray} (h : OwnSs w base A c l) (hx : Ext w w') : OwnSs w' base A c l := ⟨h.1.ext hx, h.2⟩
theorem OwnSs.strs {l : List ByteArray} (h : OwnSs w base A c l) (hl : l.length ≤ 4294967296) (h1 : ∀ b, ob A = some b → T b) : Strs w T A l := ⟨h.1.rd.mono fun i _ hi => h1 i hi, hl, h.2⟩
theorem OwnIs.nil (w : World) (base : Nat) : OwnIs w base none 0 [] := Own.nil _ _ _ _
theorem OwnIs.ext {l : List Int} (h : OwnIs w base A c l) (hx : Ext w w') : OwnIs w' base A c l := Own.ext h hx
theorem OwnIs.ints {l : List Int} (h : OwnIs w base A c l) (hl : l.length ≤ 4294967296) (h1 : ∀ b, ob A = some b → T b) : Ints w T A l := ⟨(Own.rd h).mono fun i _ hi => h1 i hi, hl⟩
end
theorem TI.mk_ {P : Program} {t e sz by_ : Nat} {z : Value} (h : P.underlying t = some (.slice e)) (hi : (P.info? e).map (fun i => (i.zero, i.size, i.bytes)) = some (some z, sz, by_)) (hz : z.cells.size = sz) (h0 : 0 < sz) : TI P t e sz by_ := by
  obtain ⟨i0, h1, h2, h3, h4⟩ := info_parts hi
  exact ⟨h, i0, z, h1, h2, h3, h4, hz, h0⟩
theorem infoV : (Tryz.prog.info? 33).map (fun i => (i.zero, i.size, i.bytes)) = some (some (.agg #[.int .i64 0, .string ⟨#[]⟩, .int .i64 0, .int .i64 0, .int .i64 0, .slice none 0 0, .slice none 0 0]), 7, 96) := by kernel_rfl
theorem infoR : (Tryz.prog.info? 45).map (fun i => (i.zero, i.size, i.bytes)) = some (some (.slice none 0 0), 1, 24) := by kernel_rfl
theorem infoS : (Tryz.prog.info? 9).map (fun i => (i.zero, i.size, i.bytes)) = some (some (.string ⟨#[]⟩), 1, 16) := by kernel_rfl
theorem infoI : (Tryz.prog.info? 3).map (fun i => (i.zero, i.size, i.bytes)) = some (some (.int .i64 0), 1, 8) := by kernel_rfl
theorem tiV : TI Tryz.prog 45 33 7 96 := TI.mk_ Tryz.underlying45 infoV rfl (by decide)
theorem tiR : TI Tryz.prog 26 45 1 24 := TI.mk_ Tryz.underlying26 infoR rfl (by decide)
theorem tiS : TI Tryz.prog 25 9 1 16 := TI.mk_ Tryz.underlying25 infoS rfl (by decide)
theorem tiI : TI Tryz.prog 22 3 1 8 := TI.mk_ Tryz.underlying22 infoI rfl (by decide)
end Go.Proofs.YtcmmkeiiapbgcaaGreatDoor
