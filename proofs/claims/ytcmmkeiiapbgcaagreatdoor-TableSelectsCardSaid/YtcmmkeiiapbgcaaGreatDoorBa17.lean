/- The reference's Pick. Conditions: the arguments read as data. -/
import Derived.Test.YtcmmkeiiapbgcaaGreatDoorBa16
namespace Go.Proofs.YtcmmkeiiapbgcaaGreatDoor
open Go Go.RowKit
/-- The memory while columns are picked. -/
structure PkC (w w0 : World) (lo go : Nat) (Ac : Option Addr) (cc : Nat) (cs : List ByteArray) (wr : World) : Prop where
  ext : Ext w wr
  kept : Kept (fun b => b < lo ∧ b ≠ go) w0 wr
  golo : w.heap.size ≤ go ∧ go < lo ∧ lo ≤ wr.heap.size
  out : Blk wr go 33 #[.int .i64 5, .string ⟨#[]⟩, .int .i64 0, .int .i64 0, .int .i64 0, .slice Ac cs.length cc, .slice none 0 0]
  cols : OwnSs wr lo Ac cc cs
structure PkCA (w w0 : World) (lo go : Nat) (Ac : Option Addr) (cc : Nat) (cs : List ByteArray) (wr : World) : Prop where
  ext : Ext w wr
  kept : Kept (fun b => b < lo ∧ b ≠ go) w0 wr
  golo : w.heap.size ≤ go ∧ go < lo ∧ lo ≤ wr.heap.size
  out : ∃ y, Blk wr go 33 #[.int .i64 5, .string ⟨#[]⟩, .int .i64 0, .int .i64 0, .int .i64 0, y, .slice none 0 0]
  cols : OwnSs wr lo Ac cc cs
section
variable {w w0 wr wr' : World} {lo go cc : Nat} {Ac : Option Addr} {cs : List ByteArray}
theorem PkC.more (h : PkC w w0 lo go Ac cc cs wr) (hx : Ext wr wr') : PkC w w0 lo go Ac cc cs wr' :=
  ⟨h.ext.trans hx, h.kept.trans (hx.kept _), ⟨h.golo.1, h.golo.2.1, Nat.le_trans h.golo.2.2 hx.size⟩, h.out.keep (hx.kept _), h.cols.ext hx⟩
theorem PkC.app (h : PkC w w0 lo go Ac cc cs wr) {A4 : Option Addr} {c4 : Nat} {s : ByteArray} (hs : s.size ≤ 4294967296) (hg : wr.grownBy wr' (ob Ac)) (ho : Own wr' lo 9 1 A4 (cs.length + 1) c4 (cs.map Value.string ++ [.string s])) : PkCA w w0 lo go A4 c4 (cs ++ [s]) wr' := by
  have hlow : ∀ b, ob Ac = some b → lo ≤ b := fun b hb => (h.cols.1.blk hb).1
  have hgo := h.golo
  have hk : ∀ S : Nat → Prop, (∀ b, S b → ob Ac ≠ some b) → Kept S wr wr' := fun S hS => Kept.of_grown hg fun b hb _ e => hS b hb e.symm
  refine ⟨h.ext.grown hg fun b hb => by have := hlow b hb; omega, h.kept.trans (hk _ fun b hb e => by have := hlow b e; omega), ⟨hgo.1, hgo.2.1, Nat.le_trans hgo.2.2 hg.size⟩, ⟨_, h.out.keep (hk _ fun b hb e => by have := hlow b e; omega)⟩, by simpa using ho, fun x hx => ?_⟩
  rcases List.mem_append.1 hx with hx | hx
  · exact h.cols.2 x hx
  · simp at hx; subst hx; exact hs
theorem PkCA.store (h : PkCA w w0 lo go Ac cc cs wr) : PkC w w0 lo go Ac cc cs (wr.setCell ⟨go, 5, none⟩ (.slice Ac cs.length cc)) := by
  obtain ⟨y, hy⟩ := h.out
  have ho := (Only.refl go wr).set 5 (.slice Ac cs.length cc)
  have hgo := h.golo
  exact ⟨h.ext.only ho hgo.1, h.kept.trans (ho.kept fun b _ hb => hb.2), by simpa [World.setCell] using hgo, hy.set 5 _, ⟨ho.own h.cols.1 (by omega), h.cols.2⟩⟩
theorem PkC.outT (h : PkC w w0 lo go Ac cc cs wr) {X : Nat → Prop} (d : Nat) (hl : cs.length ≤ 4294967296) (hX : ∀ b, lo ≤ b → X b) : OutT w w0 lo X d go Ac cc cs none 0 [] wr :=
  ⟨h.ext, h.kept, h.golo, h.out, h.cols.strs hl fun b hb => by have h1 := (h.cols.1.blk hb).1; have h2 := h.golo; exact ⟨by simp [ob], hX b h1, by omega⟩, OwnRs.nil _ _ _ _⟩
end
def vK8 (wb : World) (A : Option Addr) (n : Nat) (c : Nat) (bl : Nat) (ol : Nat) (m : Nat) (cl : Nat) (k : Nat) (nm : ByteArray) (p : Int) (p2 : Int) (b1 : Bool) (b2 : Bool) : Nat → Value
  | 0 => .pointer (some ⟨wb.heap.size, 5, none⟩)
  | 1 => .slice A n c
  | 2 => .slice (some ⟨bl, ol, none⟩) m cl
  | 3 => .int .i64 (k : Int)
  | 4 => .pointer (some ⟨bl, ol + k, none⟩)
  | 5 => .string nm
  | 6 => .int .i64 p
  | 7 => .bool b1
  | 8 => .bool b1
  | 9 => .slice (some ⟨bl, ol, none⟩) m cl
  | 10 => .int .i64 (k : Int)
  | 11 => .slice (some ⟨bl, ol, none⟩) k cl
  | 12 => .slice (some ⟨bl, ol, none⟩) m cl
  | 13 => .int .i64 (k : Int)
  | 14 => .pointer (some ⟨bl, ol + k, none⟩)
  | 15 => .string nm
  | 16 => .int .i64 p2
  | 17 => .bool b2
  | 18 => .bool (b1 || b2)
  | _ => undef
def gK8 (wb : World) (A : Option Addr) (n : Nat) (c : Nat) (bl : Nat) (ol : Nat) (m : Nat) (cl : Nat) (k : Nat) (nm : ByteArray) (p : Int) (p2 : Int) (b1 : Bool) (b2 : Bool) (ix : Nat) (vl : List Value) (_γ : Gh) (_w' : World) : Prop := match vl with
  | [v] => v = vK8 wb A n c bl ol m cl k nm p p2 b1 b2 ix
  | _ => True
theorem gK8_st (wb : World) (A : Option Addr) (n : Nat) (c : Nat) (bl : Nat) (ol : Nat) (m : Nat) (cl : Nat) (k : Nat) (nm : ByteArray) (p : Int) (p2 : Int) (b1 : Bool) (b2 : Bool) : ∀ ix vl γ w γ' w', LR γ w γ' w' → gK8 wb A n c bl ol m cl k nm p p2 b1 b2 ix vl γ w → gK8 wb A n c bl ol m cl k nm p p2 b1 b2 ix vl γ' w' := by
  intro ix vl γ w γ' w' r h
  match vl, h with
  | [v], h =>
    unfold gK8 at h ⊢
    exact h
  | [], _ => trivial
  | _ :: _ :: _, _ => trivial
def vK8N (wb : World) (A : Option Addr) (n : Nat) (c : Nat) (bl : Nat) (ol : Nat) (m : Nat) (cl : Nat) (k : Nat) (nm : ByteArray) (p : Int) (_p2 : Int) (b1 : Bool) (b2 : Bool) : Nat → Value
  | 0 => .pointer (some ⟨wb.heap.size, 5, none⟩)
  | 1 => .slice A n c
  | 2 => .slice (some ⟨bl, ol, none⟩) m cl
  | 3 => .int .i64 (k : Int)
  | 4 => .pointer (some ⟨bl, ol + k, none⟩)
  | 5 => .string nm
  | 6 => .int .i64 p
  | 7 => .bool b1
  | 8 => .bool b1
  | 9 => undef
  | 10 => undef
  | 11 => undef
  | 12 => undef
  | 13 => undef
  | 14 => undef
  | 15 => undef
  | 16 => undef
  | 17 => undef
  | 18 => .bool (b1 || b2)
  | _ => undef
def gK8N (wb : World) (A : Option Addr) (n : Nat) (c : Nat) (bl : Nat) (ol : Nat) (m : Nat) (cl : Nat) (k : Nat) (nm : ByteArray) (p : Int) (p2 : Int) (b1 : Bool) (b2 : Bool) (ix : Nat) (vl : List Value) (_γ : Gh) (_w' : World) : Prop := match vl with
  | [v] => v = vK8N wb A n c bl ol m cl k nm p p2 b1 b2 ix
  | _ => True
theorem gK8N_st (wb : World) (A : Option Addr) (n : Nat) (c : Nat) (bl : Nat) (ol : Nat) (m : Nat) (cl : Nat) (k : Nat) (nm : ByteArray) (p : Int) (p2 : Int) (b1 : Bool) (b2 : Bool) : ∀ ix vl γ w γ' w', LR γ w γ' w' → gK8N wb A n c bl ol m cl k nm p p2 b1 b2 ix vl γ w → gK8N wb A n c bl ol m cl k nm p p2 b1 b2 ix vl γ' w' := by
  intro ix vl γ w γ' w' r h
  match vl, h with
  | [v], h =>
    unfold gK8N at h ⊢
    exact h
  | [], _ => trivial
  | _ :: _ :: _, _ => trivial
def PkAInv (w w0 : World) (lo go : Nat) (Ac : Option Addr) (cc : Nat) (cs : List ByteArray) (_bl _ol _m _cl _k : Nat) (_nm : ByteArray) (γ : Nat) (w' : World) : Prop := γ ≤ 3 ∧ (γ ≤ 1 → PkC w w0 lo go Ac cc cs w') ∧ (γ ≤ 2 → Kept (fun b => b < lo ∧ b ≠ go) w0 w')
def gPkA (w w0 : World) (lo go : Nat) (Ac : Option Addr) (cc : Nat) (cs : List ByteArray) (bl ol m cl k : Nat) (nm : ByteArray) : Nat → List Value → Nat → World → Prop
  | 0, [v], _, _ => v = .pointer (some ⟨go, 5, none⟩)
  | 1, [v], _, _ => v = .slice Ac cs.length cc
  | 2, [v], _, _ => v = .slice (some ⟨bl, ol, none⟩) m cl
  | 3, [v], _, _ => v = .int .i64 (k : Int)
  | 4, [v], _, _ => v = .pointer (some ⟨bl, ol + k, none⟩)
  | 5, [v], _, _ => v = .string nm
  | 6, [v], γ, w' => ∃ g : Nat, v = .slice (some ⟨g, 0, none⟩) 1 1 ∧ 1 ≤ γ ∧ (γ = 1 → Blk w' g 9 #[.string nm])
  | 7, [v], γ, w' => ∃ (A4 : Option Addr) (c4 : Nat), v = .slice A4 (cs.length + 1) c4 ∧ 2 ≤ γ ∧ (γ = 2 → PkCA w w0 lo go A4 c4 (cs ++ [nm]) w')
  | 8, [v], _, _ => v = .pointer (some ⟨go, 5, none⟩)
  | 9, [_], γ, w' => 3 ≤ γ ∧ (γ = 3 → ∃ (A4 : Option Addr) (c4 : Nat), PkC w w0 lo go A4 c4 (cs ++ [nm]) w')
  | _, _, _, _ => True
theorem gPkA_st (w w0 : World) (lo go : Nat) (Ac : Option Addr) (cc : Nat) (cs : List ByteArray) (bl ol m cl k : Nat) (nm : ByteArray) : ∀ i l' γ v γ' v', SR (PkAInv w w0 lo go Ac cc cs bl ol m cl k nm) γ v γ' v' → gPkA w w0 lo go Ac cc cs bl ol m cl k nm i l' γ v → gPkA w w0 lo go Ac cc cs bl ol m cl k nm i l' γ' v' := by
  intro i l' γ v γ' v' r h
  have hle := r.le
  unfold gPkA at h ⊢
  split at h
  all_goals first
    | exact h
    | (obtain ⟨h1, h2⟩ := h; exact ⟨h1, by omega⟩)
    | (obtain ⟨h1, h3, h4⟩ := h; exact ⟨h1, by omega, fun e => by rw [r.eq (by omega)]; exact h4 (by omega)⟩)
    | (obtain ⟨x0, h1, h3, h4⟩ := h; exact ⟨x0, h1, by omega, fun e => by rw [r.eq (by omega)]; exact h4 (by omega)⟩)
    | (obtain ⟨x0, x1, h1, h3, h4⟩ := h; exact ⟨x0, x1, h1, by omega, fun e => by rw [r.eq (by omega)]; exact h4 (by omega)⟩)
    | (obtain ⟨x0, x1, x2, h1, h3, h4⟩ := h; exact ⟨x0, x1, x2, h1, by omega, fun e => by rw [r.eq (by omega)]; exact h4 (by omega)⟩)
    | (obtain ⟨x0, x1, x2, x3, h1, h3, h4⟩ := h; exact ⟨x0, x1, x2, x3, h1, by omega, fun e => by rw [r.eq (by omega)]; exact h4 (by omega)⟩)
    | (obtain ⟨x0, x1, x2, x3, x4, h1, h3, h4⟩ := h; exact ⟨x0, x1, x2, x3, x4, h1, by omega, fun e => by rw [r.eq (by omega)]; exact h4 (by omega)⟩)
    | (obtain ⟨h3, h4⟩ := h; exact ⟨by omega, fun e => by rw [r.eq (by omega)]; exact h4 (by omega)⟩)
def dPkA : Nat → List Nat := fun i => [i]
def stPkA : List Nat := [100, 2, 100, 100, 100, 3, 1, 2, 100, 3]
def PkBInv (wi : World) (HH : Nat) (_X' : Nat → Prop) (_d : Nat) (_A5 : Option Addr) (_c5 : Nat) (_l : List Val) (_gt : Nat) (_A : Option Addr) (_n _c : Nat) (_b _o _nr _e _k : Nat) (_b2 _o2 _rn _ec _bl _ol _m _cl _j : Nat) (_nm : ByteArray) (_pn : Nat) (_y : Val) (_Ay : Option Addr) (_cy : Nat) (_By : Option Addr) (_ey : Nat) (γ : Nat) (w' : World) : Prop := γ ≤ 2 ∧ (γ ≤ 1 → Ext wi w') ∧ Below HH wi w'
def gPkB (wi : World) (HH : Nat) (X' : Nat → Prop) (d : Nat) (A5 : Option Addr) (c5 : Nat) (l : List Val) (gt : Nat) (A : Option Addr) (n c : Nat) (b o nr e k : Nat) (b2 o2 rn ec bl ol m cl j : Nat) (nm : ByteArray) (pn : Nat) (y : Val) (Ay : Option Addr) (cy : Nat) (By : Option Addr) (ey : Nat) : Nat → List Value → Nat → World → Prop
  | 0, [v], _, _ => v = .slice A5 j c5
  | 1, [v], _, _ => v = .pointer (some ⟨gt, 6, none⟩)
  | 2, [v], _, _ => v = .slice (some ⟨b, o, none⟩) nr e
  | 3, [v], _, _ => v = .int .i64 (k : Int)
  | 4, [v], _, _ => v = .pointer (some ⟨b, o + k, none⟩)
  | 5, [v], _, _ => v = .slice (some ⟨b2, o2, none⟩) rn ec
  | 6, [v], _, _ => v = .pointer (some ⟨gt, 5, none⟩)
  | 7, [v], _, _ => v = .slice A n c
  | 8, [v], _, _ => v = .slice (some ⟨bl, ol, none⟩) m cl
  | 9, [v], _, _ => v = .int .i64 (j : Int)
  | 10, [v], _, _ => v = .pointer (some ⟨bl, ol + j, none⟩)
  | 11, [v], _, _ => v = .string nm
  | 12, [v], _, _ => v = .int .i64 (pn : Int)
  | 13, [v], _, _ => v = .pointer (some ⟨b2, o2 + pn * 7, none⟩)
  | 14, [v], _, _ => v = (.agg #[.int .i64 y.kind, .string y.s, .int .i64 y.dn, .int .i64 y.ds, .int .i64 y.n, .slice Ay y.cols.length cy, .slice By y.rows.length ey])
  | 15, [v], γ, w' => ∃ g : Nat, v = .slice (some ⟨g, 0, none⟩) 1 1 ∧ 1 ≤ γ ∧ (γ = 1 → Blk w' g 33 #[.int .i64 y.kind, .string y.s, .int .i64 y.dn, .int .i64 y.ds, .int .i64 y.n, .slice Ay y.cols.length cy, .slice By y.rows.length ey])
  | 16, [v], γ, w' => ∃ (A4 : Option Addr) (c4 : Nat), v = .slice A4 (j + 1) c4 ∧ 2 ≤ γ ∧ (γ = 2 → OwnVs w' HH X' d A4 c4 (l ++ [y]) ∧ Below HH wi w')
  | 17, [v], γ, w' => ∃ (A4 : Option Addr) (c4 : Nat), v = .slice A4 (j + 1) c4 ∧ 2 ≤ γ ∧ (γ = 2 → OwnVs w' HH X' d A4 c4 (l ++ [y]) ∧ Below HH wi w')
  | _, _, _, _ => True
theorem gPkB_st (wi : World) (HH : Nat) (X' : Nat → Prop) (d : Nat) (A5 : Option Addr) (c5 : Nat) (l : List Val) (gt : Nat) (A : Option Addr) (n c : Nat) (b o nr e k : Nat) (b2 o2 rn ec bl ol m cl j : Nat) (nm : ByteArray) (pn : Nat) (y : Val) (Ay : Option Addr) (cy : Nat) (By : Option Addr) (ey : Nat) : ∀ i l' γ v γ' v', SR (PkBInv wi HH X' d A5 c5 l gt A n c b o nr e k b2 o2 rn ec bl ol m cl j nm pn y Ay cy By ey) γ v γ' v' → gPkB wi HH X' d A5 c5 l gt A n c b o nr e k b2 o2 rn ec bl ol m cl j nm pn y Ay cy By ey i l' γ v → gPkB wi HH X' d A5 c5 l gt A n c b o nr e k b2 o2 rn ec bl ol m cl j nm pn y Ay cy By ey i l' γ' v' := by
  intro i l' γ v γ' v' r h
  have hle := r.le
  unfold gPkB at h ⊢
  split at h
  all_goals first
    | exact h
    | (obtain ⟨h1, h2⟩ := h; exact ⟨h1, by omega⟩)
    | (obtain ⟨h1, h3, h4⟩ := h; exact ⟨h1, by omega, fun e => by rw [r.eq (by omega)]; exact h4 (by omega)⟩)
    | (obtain ⟨x0, h1, h3, h4⟩ := h; exact ⟨x0, h1, by omega, fun e => by rw [r.eq (by omega)]; exact h4 (by omega)⟩)
    | (obtain ⟨x0, x1, h1, h3, h4⟩ := h; exact ⟨x0, x1, h1, by omega, fun e => by rw [r.eq (by omega)]; exact h4 (by omega)⟩)
    | (obtain ⟨x0, x1, x2, h1, h3, h4⟩ := h; exact ⟨x0, x1, x2, h1, by omega, fun e => by rw [r.eq (by omega)]; exact h4 (by omega)⟩)
    | (obtain ⟨x0, x1, x2, x3, h1, h3, h4⟩ := h; exact ⟨x0, x1, x2, x3, h1, by omega, fun e => by rw [r.eq (by omega)]; exact h4 (by omega)⟩)
    | (obtain ⟨x0, x1, x2, x3, x4, h1, h3, h4⟩ := h; exact ⟨x0, x1, x2, x3, x4, h1, by omega, fun e => by rw [r.eq (by omega)]; exact h4 (by omega)⟩)
    | (obtain ⟨h3, h4⟩ := h; exact ⟨by omega, fun e => by rw [r.eq (by omega)]; exact h4 (by omega)⟩)
def dPkB : Nat → List Nat := fun i => [i]
def stPkB : List Nat := [100, 100, 100, 100, 100, 100, 100, 100, 100, 100, 100, 100, 100, 100, 100, 1, 2, 100]

set_option maxRecDepth 100000 in
set_option maxHeartbeats 8000000 in
theorem r09_Pick (d : Nat) (t : Val) (cols : List ByteArray) (A B Al : Option Addr) (c e cl : Nat) (w : World) (S T : Nat → Prop) (h : RV w S d t A B) (hl : Strs w T Al cols) (hclc : cols.length ≤ cl) :
    Calls Tryz.prog 33 #[(.agg #[.int .i64 t.kind, .string t.s, .int .i64 t.dn, .int .i64 t.ds, .int .i64 t.n, .slice A t.cols.length c, .slice B t.rows.length e]), .slice Al cols.length cl] w (RetVE w (fun b => S b ∨ w.heap.size ≤ b) d (pickS t cols)) := by
  obtain ⟨S', hS'⟩ : ∃ S' : Nat → Prop, S' = fun b => S b ∧ b < w.heap.size := ⟨_, rfl⟩
  have HSL := Lib.hid (show ∀ b, S' b → b < w.heap.size from fun b hb => by rw [hS'] at hb; exact hb.2)
  have HSS := Lib.hid (show ∀ b, S' b → S b from fun b hb => by rw [hS'] at hb; exact hb.1)
  have H := Lib.hid (h.mono (T := S') fun i hi hs => by rw [hS']; exact ⟨hs, hi⟩)
  have HL := Lib.hid (hl.mono (T := fun b => b < w.heap.size) fun i hi _ => hi)
  have hrl := h.rows_.len
  have hcl := hl.2.1
  have htl := h.strs.2.1
  clear h hl hS'
  obtain ⟨W0, hW0⟩ : ∃ W0, W0 = (w.alloc (.cells #[.int .i64 t.kind, .string t.s, .int .i64 t.dn, .int .i64 t.ds, .int .i64 t.n, .slice A t.cols.length c, .slice B t.rows.length e] 33)).alloc (.cells #[.int .i64 0, .string ⟨#[]⟩, .int .i64 0, .int .i64 0, .int .i64 0, .slice none 0 0, .slice none 0 0] 33) := ⟨_, rfl⟩
  have HW0 := Lib.hid hW0
  have HX0 := Lib.hid (show Ext w W0 by rw [hW0]; exact ((Ext.refl w).alloc _).alloc _)
  have HB0 := Lib.hid (show Blk W0 w.heap.size 33 #[.int .i64 t.kind, .string t.s, .int .i64 t.dn, .int .i64 t.ds, .int .i64 t.n, .slice A t.cols.length c, .slice B t.rows.length e] by rw [hW0]; exact (Blk.new _ _ _).keep (Kept.alloc _ _ _))
  have HB2 := Lib.hid (show Blk W0 (w.heap.size + 1) 33 #[.int .i64 0, .string ⟨#[]⟩, .int .i64 0, .int .i64 0, .int .i64 0, .slice none 0 0, .slice none 0 0] by
    rw [hW0]
    have := Blk.new (w.alloc (.cells #[.int .i64 t.kind, .string t.s, .int .i64 t.dn, .int .i64 t.ds, .int .i64 t.n, .slice A t.cols.length c, .slice B t.rows.length e] 33)) 33 #[.int .i64 0, .string ⟨#[]⟩, .int .i64 0, .int .i64 0, .int .i64 0, .slice none 0 0, .slice none 0 0]
    simpa using this)
  have HS0 := Lib.hid (show W0.heap.size = w.heap.size + 2 by rw [hW0]; simp)
  clear hW0
  go_enter Tryz.func33, Tryz.ntmps33
  go_wp2_with fail
  rw [← HW0.out]
  refine (r09_IsTable d t A B c e W0 _ (H.out.keep (HX0.out.kept _))).mono ?_
  rintro e1 w1 ⟨rfl, hx1⟩
  have HX1 := Lib.hid (HX0.out.trans hx1)
  have HB01 := Lib.hid (HB0.out.keep (hx1.kept _))
  have HB21 := Lib.hid (HB2.out.keep (hx1.kept _))
  have hz1 : w.heap.size + 2 ≤ w1.heap.size := by have := hx1.size; have := HS0.out; omega
  clear hx1 HB0 HB2 HW0 HX0 HS0
  cases hT : isTabB t
  · have HF := Lib.hid (show pickS t cols = (Val.zero, 14) by simp [pickS, hT])
    clear hT
    have r0 := HB21.out.cell (i := 0) rfl
    have r1 := HB21.out.cell (i := 1) rfl
    have r2 := HB21.out.cell (i := 2) rfl
    have r3 := HB21.out.cell (i := 3) rfl
    have r4 := HB21.out.cell (i := 4) rfl
    have r5 := HB21.out.cell (i := 5) rfl
    have r6 := HB21.out.cell (i := 6) rfl
    have rf := HB21.out.frozen
    have rz := HB21.out.lt
    go_wp2
    rw [HF.out]
    refine bodyPost_ret (v := .tuple #[(.agg #[.int .i64 Val.zero.kind, .string Val.zero.s, .int .i64 Val.zero.dn, .int .i64 Val.zero.ds, .int .i64 Val.zero.n, .slice none Val.zero.cols.length 0, .slice none Val.zero.rows.length 0]), .int .i64 14]) (by simp [results, Tryz.results33, go_sem, r0, r1, r2, r3, r4, r5, r6, Val.zero]) rfl ⟨none, 0, none, 0, rfl, ⟨Nat.le_refl _, Nat.le_refl _⟩, RV.zero, ?_⟩
    iterate 7 with_reducible refine Ext.set2 ?_ (by omega) _
    with_reducible exact HX1.out
  have HT := Lib.hid hT
  clear hT
  obtain ⟨w0, hw0⟩ : ∃ w0, w0 = w1.alloc (.cells #[.int .i64 5, .string ⟨#[]⟩, .int .i64 0, .int .i64 0, .int .i64 0, .slice none 0 0, .slice none 0 0] 33) := ⟨_, rfl⟩
  have hx10 : Ext w1 w0 := by rw [hw0]; exact (Ext.refl _).alloc _
  obtain ⟨go, hgo⟩ : ∃ go, go = w1.heap.size := ⟨_, rfl⟩
  obtain ⟨lo, hlo⟩ : ∃ lo, lo = go + 1 := ⟨_, rfl⟩
  have HM0 := Lib.hid (show PkC w w0 lo go none 0 (cols.take 0) w0 from ⟨HX1.out.trans hx10, Kept.refl _ _, ⟨by omega, by omega, by rw [hw0, hlo, hgo]; simp⟩, by rw [hw0, hgo]; exact Blk.new _ _ _, OwnSs.nil _ _⟩)
  have HXW := Lib.hid (HX1.out.trans hx10)
  have HB0 := Lib.hid (HB01.out.keep (hx10.kept _))
  have HB2 := Lib.hid (HB21.out.keep (hx10.kept _))
  have HW0 := Lib.hid hw0
  have HGO := Lib.hid hgo
  have hgz : w.heap.size + 2 ≤ go := by omega
  have hgl : go < lo := by omega
  have HLO := Lib.hid hlo
  clear hx10 HB01 HB21 hw0 hgo hlo
  go_wp2
  rw [← HW0.out, ← HGO.out]
  clear HW0 HGO
  go_loopw [8] (fun i wr => ∃ (k : Nat) (Ac : Option Addr) (cc : Nat), k ≤ cols.length ∧ i = .int .i64 k ∧ PkC w w0 lo go Ac cc (cols.take k) wr ∧ pickOK t.cols cols k) (fun i _ => cols.length - (intOf i).toNat)
  case atStart => exact ⟨0, none, 0, Nat.zero_le _, rfl, HM0.out, fun j hj h => absurd h (by omega)⟩
  case round =>
    clear HM0
    obtain ⟨k, Ac, cc, hk, rfl, hm0, hpk⟩ := hrel
    have HM1 := Lib.hid hm0
    have HPK := Lib.hid hpk
    have HKP := Lib.hid (hm0.kept.mono (T := fun b => b < w.heap.size + 2) fun b _ hb => ⟨by omega, by omega⟩)
    have HB22 := Lib.hid (HB2.out.keep (HKP.out.mono fun b _ e => by omega))
    clear hm0 hpk
    by_cases hlt : k < cols.length
    · obtain ⟨bl, ol, hAl, hbl, hcl0⟩ := HL.out.at_ hlt
      subst hAl
      obtain ⟨nm, hnm⟩ : ∃ nm, nm = cols[k] := ⟨_, rfl⟩
      rw [← hnm] at hcl0
      have HNM := Lib.hid hnm
      have HNZ := Lib.hid (show nm.size ≤ 4294967296 by rw [hnm]; exact HL.out.sz hlt)
      have K5 := Lib.hid ((HB0.out.keep (HKP.out.mono fun b _ e => by omega)).cell (i := 5) rfl)
      have Z0 := Lib.hid (HM1.out.ext.cell hcl0)
      have HTC := Lib.hid (H.out.strs.keep (HM1.out.ext.kept _))
      have HTK := Lib.hid ((HL.out.keep (HM1.out.ext.kept _)).take k)
      have HTKL := Lib.hid (show (cols.take k).length = k by rw [List.length_take]; omega)
      obtain ⟨p, hp⟩ : ∃ p, p = idxS t.cols nm := ⟨_, rfl⟩
      obtain ⟨p2, hp2⟩ : ∃ p2, p2 = idxS (cols.take k) nm := ⟨_, rfl⟩
      have HPE := Lib.hid hp
      have HP2 := Lib.hid hp2
      have HCL0 := Lib.hid hcl0
      obtain ⟨b2, hb2⟩ : ∃ b2 : Bool, b2 = decide (0 ≤ p2) := ⟨_, rfl⟩
      have HB2E := Lib.hid hb2.symm
      have HMB := Lib.hid (show memS (cols.take k) nm = b2 by rw [hb2, hp2]; rfl)
      obtain ⟨n, hn⟩ : ∃ n, n = t.cols.length := ⟨_, rfl⟩
      obtain ⟨m, hm⟩ : ∃ m, m = cols.length := ⟨_, rfl⟩
      have HNT := Lib.hid hn
      have HMT := Lib.hid hm
      have hkm : k < m := by omega
      have hmcl : m ≤ cl := by omega
      clear hnm hp hp2 hb2 hcl0
      have K5' := K5
      rw [← hn] at K5
      go_upto_region 8 with fail
      rw [← hn, ← hm]
      clear hn hm
      by_cases hneg : p < 0
      · have HF := Lib.hid (show pickS t cols = (Val.zero, 13) by
          unfold pickS
          rw [HT.out, pickB_false hlt (by rw [← HNM.out, ← HPE.out]; omega)]
          rfl)
        have HB1E := Lib.hid (show decide (p < 0) = true by simpa using hneg)
        refine wp_region_lin_lit (by kernel_rfl) (fun i => [i]) (by kernel_rfl) LR LR.refl LR.trans (LN (al0)) (gK8N w A n c bl ol m cl k nm p p2 true b2) (gK8N_st _ _ _ _ _ _ _ _ _ _ _ _ _ _) gh0 (LN.zero _) ⟨?_, ?_, ?_, ?_, ?_, ?_, ?_, ?_, ?_, ?_, ?_, ?_, ?_, ?_, ?_, ?_, ?_, ?_, ?_, trivial⟩ ?_
        · refine LinStep.yes fun vals γ w' ρ hR hN hp hρ hc hf hg => ⟨rfl, ?_⟩
          have e2 : ρ (.tmp 2) = .pointer (some ⟨w.heap.size, 0, none⟩) := hρ 2
          have hx := hR.drew_ext
          have HR := Lib.hid hR
          have HN := Lib.hid hN
          clear hR hN hp hρ hx
          go_light
          go_simp
          exact ⟨γ, LR.refl _ _, fun _ _ _ h => h, rfl⟩
        · refine LinStep.yes fun vals γ w' ρ hR hN hp hρ hc hf hg => ⟨rfl, ?_⟩
          have e24 : ρ (.tmp 24) = .pointer (some ⟨w.heap.size, 5, none⟩) := (hρ 24).trans (hp 0 (by decide))
          have hx := hR.drew_ext
          have c5 := hx.cell K5.out
          have HR := Lib.hid hR
          have HN := Lib.hid hN
          clear hR hN hp hρ hx
          go_light
          go_simp
          exact ⟨γ, LR.refl _ _, fun _ _ _ h => h, rfl⟩
        · refine LinStep.yes fun vals γ w' ρ hR hN hp hρ hc hf hg => ⟨rfl, ?_⟩
          have e1 : ρ (.tmp 1) = .slice (some ⟨bl, ol, none⟩) m cl := hρ 1
          have hx := hR.drew_ext
          have HR := Lib.hid hR
          have HN := Lib.hid hN
          clear hR hN hp hρ hx
          go_light
          go_simp
          exact ⟨γ, LR.refl _ _, fun _ _ _ h => h, rfl⟩
        · refine LinStep.yes fun vals γ w' ρ hR hN hp hρ hc hf hg => ⟨rfl, ?_⟩
          have e8 : ρ (.tmp 8) = .int .i64 (k : Int) := hρ 8
          have hx := hR.drew_ext
          have HR := Lib.hid hR
          have HN := Lib.hid hN
          clear hR hN hp hρ hx
          go_light
          go_simp
          exact ⟨γ, LR.refl _ _, fun _ _ _ h => h, rfl⟩
        · refine LinStep.yes fun vals γ w' ρ hR hN hp hρ hc hf hg => ⟨rfl, ?_⟩
          have e26 : ρ (.tmp 26) = .slice (some ⟨bl, ol, none⟩) m cl := (hρ 26).trans (hp 2 (by decide))
          have e27 : ρ (.tmp 27) = .int .i64 (k : Int) := (hρ 27).trans (hp 3 (by decide))
          have hx := hR.drew_ext
          have i0 : (0 : Int) ≤ (k : Int) := by omega
          have i1 : (k : Int) < (m : Int) := by omega
          have HR := Lib.hid hR
          have HN := Lib.hid hN
          clear hR hN hp hρ hx
          go_light
          go_simp
          exact ⟨γ, LR.refl _ _, fun _ _ _ h => h, rfl⟩
        · refine LinStep.yes fun vals γ w' ρ hR hN hp hρ hc hf hg => ⟨rfl, ?_⟩
          have e28 : ρ (.tmp 28) = .pointer (some ⟨bl, ol + k, none⟩) := (hρ 28).trans (hp 4 (by decide))
          have hx := hR.drew_ext
          have z0 := hx.cell Z0.out
          have HR := Lib.hid hR
          have HN := Lib.hid hN
          clear hR hN hp hρ hx
          go_light
          go_simp
          exact ⟨γ, LR.refl _ _, fun _ _ _ h => h, rfl⟩
        · refine LinStep.yes fun vals γ w' ρ hR hN hp hρ hc hf hg => ⟨rfl, ?_⟩
          have e25 : ρ (.tmp 25) = .slice A n c := (hρ 25).trans (hp 1 (by decide))
          have e29 : ρ (.tmp 29) = .string nm := (hρ 29).trans (hp 5 (by decide))
          have hx := hR.drew_ext
          have HR := Lib.hid hR
          have HN := Lib.hid hN
          clear hR hN hp hρ hx
          go_light
          go_simp
          have hix := r09_index A c t.cols nm w' _ (HTC.out.keep (HR.out.drew_ext.kept _))
          rw [← HNT.out] at hix
          refine (hix).mono ?_
          rintro e' w3 ⟨he, rfl⟩
          rw [← HPE.out] at he
          exact ⟨_, he, γ, LR.refl _ _, fun _ _ _ h => h, rfl⟩
        · refine LinStep.yes fun vals γ w' ρ hR hN hp hρ hc hf hg => ⟨rfl, ?_⟩
          have e30 : ρ (.tmp 30) = .int .i64 p := (hρ 30).trans (hp 6 (by decide))
          have hx := hR.drew_ext
          have hd := HB1E.out
          have HR := Lib.hid hR
          have HN := Lib.hid hN
          clear hR hN hp hρ hx
          go_light
          go_simp
          exact ⟨γ, LR.refl _ _, fun _ _ _ h => h, rfl⟩
        · refine LinStep.yes fun vals γ w' ρ hR hN hp hρ hc hf hg => ⟨rfl, ?_⟩
          have e31 : ρ (.tmp 31) = .bool true := (hρ 31).trans (hp 7 (by decide))
          have hx := hR.drew_ext
          have HR := Lib.hid hR
          have HN := Lib.hid hN
          clear hR hN hp hρ hx
          go_light
          go_simp
          exact ⟨γ, LR.refl _ _, fun _ _ _ h => h, rfl⟩
        · refine LinStep.no fun vals γ w' hp => ⟨by show (boolOf (vals 8) == some false) = false; rw [show vals 8 = .bool true from hp 8 (by decide)]; rfl, rfl⟩
        · refine LinStep.no fun vals γ w' hp => ⟨by show (boolOf (vals 8) == some false) = false; rw [show vals 8 = .bool true from hp 8 (by decide)]; rfl, rfl⟩
        · refine LinStep.no fun vals γ w' hp => ⟨by show (boolOf (vals 8) == some false) = false; rw [show vals 8 = .bool true from hp 8 (by decide)]; rfl, rfl⟩
        · refine LinStep.no fun vals γ w' hp => ⟨by show (boolOf (vals 8) == some false) = false; rw [show vals 8 = .bool true from hp 8 (by decide)]; rfl, rfl⟩
        · refine LinStep.no fun vals γ w' hp => ⟨by show (boolOf (vals 8) == some false) = false; rw [show vals 8 = .bool true from hp 8 (by decide)]; rfl, rfl⟩
        · refine LinStep.no fun vals γ w' hp => ⟨by show (boolOf (vals 8) == some false) = false; rw [show vals 8 = .bool true from hp 8 (by decide)]; rfl, rfl⟩
        · refine LinStep.no fun vals γ w' hp => ⟨by show (boolOf (vals 8) == some false) = false; rw [show vals 8 = .bool true from hp 8 (by decide)]; rfl, rfl⟩
        · refine LinStep.no fun vals γ w' hp => ⟨by show (boolOf (vals 8) == some false) = false; rw [show vals 8 = .bool true from hp 8 (by decide)]; rfl, rfl⟩
        · refine LinStep.no fun vals γ w' hp => ⟨by show (boolOf (vals 8) == some false) = false; rw [show vals 8 = .bool true from hp 8 (by decide)]; rfl, rfl⟩
        · refine LinStep.yes fun vals γ w' ρ hR hN hp hρ hc hf hg => ⟨rfl, ?_⟩
          have e32 : ρ (.tmp 32) = .bool true := (hρ 32).trans (hp 8 (by decide))
          have hx := hR.drew_ext
          have HR := Lib.hid hR
          have HN := Lib.hid hN
          clear hR hN hp hρ hx
          go_light
          go_simp
          refine ⟨γ, LR.refl _ _, fun _ _ _ h => h, ?_⟩
          rfl
        · intro vals γ w6 hR hG
          have h18 : vals 18 = .bool (true || b2) := hG 18 (by decide)
          rw [Bool.true_or] at h18
          have hx6 := hR.drew_ext
          have HX6 := Lib.hid (HM1.out.ext.trans hx6)
          have HB26 := Lib.hid (HB22.out.keep (hx6.kept _))
          clear hR hG hx6
          simp only [lexFrame, Act.put, List.setIfInBounds_toArray, List.set_cons_succ, List.set_cons_zero, Nat.zero_add, Nat.reduceAdd, h18]
          generalize vals 0 = u0, vals 1 = u1, vals 2 = u2, vals 3 = u3, vals 4 = u4, vals 5 = u5, vals 6 = u6, vals 7 = u7, vals 8 = u8, vals 9 = u9, vals 10 = u10, vals 11 = u11, vals 12 = u12, vals 13 = u13, vals 14 = u14, vals 15 = u15, vals 16 = u16, vals 17 = u17
          clear h18
          have hn := HNT.out
          have hm := HMT.out
          subst hn
          subst hm
          have r0 := HB26.out.cell (i := 0) rfl
          have r1 := HB26.out.cell (i := 1) rfl
          have r2 := HB26.out.cell (i := 2) rfl
          have r3 := HB26.out.cell (i := 3) rfl
          have r4 := HB26.out.cell (i := 4) rfl
          have r5 := HB26.out.cell (i := 5) rfl
          have r6 := HB26.out.cell (i := 6) rfl
          have rf := HB26.out.frozen
          have rz := HB26.out.lt
          go_wp2
          rw [HF.out]
          refine bodyPost_ret (v := .tuple #[(.agg #[.int .i64 Val.zero.kind, .string Val.zero.s, .int .i64 Val.zero.dn, .int .i64 Val.zero.ds, .int .i64 Val.zero.n, .slice none Val.zero.cols.length 0, .slice none Val.zero.rows.length 0]), .int .i64 13]) (by simp [results, Tryz.results33, go_sem, r0, r1, r2, r3, r4, r5, r6, Val.zero]) rfl ⟨none, 0, none, 0, rfl, ⟨Nat.le_refl _, Nat.le_refl _⟩, RV.zero, ?_⟩
          iterate 7 with_reducible refine Ext.set2 ?_ (by omega) _
          with_reducible exact HX6.out
      · have HB1E := Lib.hid (show decide (p < 0) = false by simpa using hneg)
        refine wp_region_lin_lit (by kernel_rfl) (fun i => [i]) (by kernel_rfl) LR LR.refl LR.trans (LN (al0)) (gK8 w A n c bl ol m cl k nm p p2 false b2) (gK8_st _ _ _ _ _ _ _ _ _ _ _ _ _ _) gh0 (LN.zero _) ⟨?_, ?_, ?_, ?_, ?_, ?_, ?_, ?_, ?_, ?_, ?_, ?_, ?_, ?_, ?_, ?_, ?_, ?_, ?_, trivial⟩ ?_
        · refine LinStep.yes fun vals γ w' ρ hR hN hp hρ hc hf hg => ⟨rfl, ?_⟩
          have e2 : ρ (.tmp 2) = .pointer (some ⟨w.heap.size, 0, none⟩) := hρ 2
          have hx := hR.drew_ext
          have HR := Lib.hid hR
          have HN := Lib.hid hN
          clear hR hN hp hρ hx
          go_light
          go_simp
          exact ⟨γ, LR.refl _ _, fun _ _ _ h => h, rfl⟩
        · refine LinStep.yes fun vals γ w' ρ hR hN hp hρ hc hf hg => ⟨rfl, ?_⟩
          have e24 : ρ (.tmp 24) = .pointer (some ⟨w.heap.size, 5, none⟩) := (hρ 24).trans (hp 0 (by decide))
          have hx := hR.drew_ext
          have c5 := hx.cell K5.out
          have HR := Lib.hid hR
          have HN := Lib.hid hN
          clear hR hN hp hρ hx
          go_light
          go_simp
          exact ⟨γ, LR.refl _ _, fun _ _ _ h => h, rfl⟩
        · refine LinStep.yes fun vals γ w' ρ hR hN hp hρ hc hf hg => ⟨rfl, ?_⟩
          have e1 : ρ (.tmp 1) = .slice (some ⟨bl, ol, none⟩) m cl := hρ 1
          have hx := hR.drew_ext
          have HR := Lib.hid hR
          have HN := Lib.hid hN
          clear hR hN hp hρ hx
          go_light
          go_simp
          exact ⟨γ, LR.refl _ _, fun _ _ _ h => h, rfl⟩
        · refine LinStep.yes fun vals γ w' ρ hR hN hp hρ hc hf hg => ⟨rfl, ?_⟩
          have e8 : ρ (.tmp 8) = .int .i64 (k : Int) := hρ 8
          have hx := hR.drew_ext
          have HR := Lib.hid hR
          have HN := Lib.hid hN
          clear hR hN hp hρ hx
          go_light
          go_simp
          exact ⟨γ, LR.refl _ _, fun _ _ _ h => h, rfl⟩
        · refine LinStep.yes fun vals γ w' ρ hR hN hp hρ hc hf hg => ⟨rfl, ?_⟩
          have e26 : ρ (.tmp 26) = .slice (some ⟨bl, ol, none⟩) m cl := (hρ 26).trans (hp 2 (by decide))
          have e27 : ρ (.tmp 27) = .int .i64 (k : Int) := (hρ 27).trans (hp 3 (by decide))
          have hx := hR.drew_ext
          have i0 : (0 : Int) ≤ (k : Int) := by omega
          have i1 : (k : Int) < (m : Int) := by omega
          have HR := Lib.hid hR
          have HN := Lib.hid hN
          clear hR hN hp hρ hx
          go_light
          go_simp
          exact ⟨γ, LR.refl _ _, fun _ _ _ h => h, rfl⟩
        · refine LinStep.yes fun vals γ w' ρ hR hN hp hρ hc hf hg => ⟨rfl, ?_⟩
          have e28 : ρ (.tmp 28) = .pointer (some ⟨bl, ol + k, none⟩) := (hρ 28).trans (hp 4 (by decide))
          have hx := hR.drew_ext
          have z0 := hx.cell Z0.out
          have HR := Lib.hid hR
          have HN := Lib.hid hN
          clear hR hN hp hρ hx
          go_light
          go_simp
          exact ⟨γ, LR.refl _ _, fun _ _ _ h => h, rfl⟩
        · refine LinStep.yes fun vals γ w' ρ hR hN hp hρ hc hf hg => ⟨rfl, ?_⟩
          have e25 : ρ (.tmp 25) = .slice A n c := (hρ 25).trans (hp 1 (by decide))
          have e29 : ρ (.tmp 29) = .string nm := (hρ 29).trans (hp 5 (by decide))
          have hx := hR.drew_ext
          have HR := Lib.hid hR
          have HN := Lib.hid hN
          clear hR hN hp hρ hx
          go_light
          go_simp
          have hix := r09_index A c t.cols nm w' _ (HTC.out.keep (HR.out.drew_ext.kept _))
          rw [← HNT.out] at hix
          refine (hix).mono ?_
          rintro e' w3 ⟨he, rfl⟩
          rw [← HPE.out] at he
          exact ⟨_, he, γ, LR.refl _ _, fun _ _ _ h => h, rfl⟩
        · refine LinStep.yes fun vals γ w' ρ hR hN hp hρ hc hf hg => ⟨rfl, ?_⟩
          have e30 : ρ (.tmp 30) = .int .i64 p := (hρ 30).trans (hp 6 (by decide))
          have hx := hR.drew_ext
          have hd := HB1E.out
          have HR := Lib.hid hR
          have HN := Lib.hid hN
          clear hR hN hp hρ hx
          go_light
          go_simp
          exact ⟨γ, LR.refl _ _, fun _ _ _ h => h, rfl⟩
        · refine LinStep.yes fun vals γ w' ρ hR hN hp hρ hc hf hg => ⟨rfl, ?_⟩
          have e31 : ρ (.tmp 31) = .bool false := (hρ 31).trans (hp 7 (by decide))
          have hx := hR.drew_ext
          have HR := Lib.hid hR
          have HN := Lib.hid hN
          clear hR hN hp hρ hx
          go_light
          go_simp
          exact ⟨γ, LR.refl _ _, fun _ _ _ h => h, rfl⟩
        · refine LinStep.yes fun vals γ w' ρ hR hN hp hρ hc hf hg => ⟨by show (boolOf (vals 8) == some false) = true; rw [show vals 8 = .bool false from hp 8 (by decide)]; rfl, ?_⟩
          have e1 : ρ (.tmp 1) = .slice (some ⟨bl, ol, none⟩) m cl := hρ 1
          have hx := hR.drew_ext
          have HR := Lib.hid hR
          have HN := Lib.hid hN
          clear hR hN hp hρ hx
          go_light
          go_simp
          exact ⟨γ, LR.refl _ _, fun _ _ _ h => h, rfl⟩
        · refine LinStep.yes fun vals γ w' ρ hR hN hp hρ hc hf hg => ⟨by show (boolOf (vals 8) == some false) = true; rw [show vals 8 = .bool false from hp 8 (by decide)]; rfl, ?_⟩
          have e8 : ρ (.tmp 8) = .int .i64 (k : Int) := hρ 8
          have hx := hR.drew_ext
          have HR := Lib.hid hR
          have HN := Lib.hid hN
          clear hR hN hp hρ hx
          go_light
          go_simp
          exact ⟨γ, LR.refl _ _, fun _ _ _ h => h, rfl⟩
        · refine LinStep.yes fun vals γ w' ρ hR hN hp hρ hc hf hg => ⟨by show (boolOf (vals 8) == some false) = true; rw [show vals 8 = .bool false from hp 8 (by decide)]; rfl, ?_⟩
          have e33 : ρ (.tmp 33) = .slice (some ⟨bl, ol, none⟩) m cl := (hρ 33).trans (hp 9 (by decide))
          have e34 : ρ (.tmp 34) = .int .i64 (k : Int) := (hρ 34).trans (hp 10 (by decide))
          have hx := hR.drew_ext
          have i0 : (0 : Int) ≤ (k : Int) := by omega
          have i3 : (k : Int) ≤ (cl : Int) := by omega
          have i4 : k ≤ cl := by omega
          have HR := Lib.hid hR
          have HN := Lib.hid hN
          clear hR hN hp hρ hx
          go_light
          go_simp
          exact ⟨γ, LR.refl _ _, fun _ _ _ h => h, rfl⟩
        · refine LinStep.yes fun vals γ w' ρ hR hN hp hρ hc hf hg => ⟨by show (boolOf (vals 8) == some false) = true; rw [show vals 8 = .bool false from hp 8 (by decide)]; rfl, ?_⟩
          have e1 : ρ (.tmp 1) = .slice (some ⟨bl, ol, none⟩) m cl := hρ 1
          have hx := hR.drew_ext
          have HR := Lib.hid hR
          have HN := Lib.hid hN
          clear hR hN hp hρ hx
          go_light
          go_simp
          exact ⟨γ, LR.refl _ _, fun _ _ _ h => h, rfl⟩
        · refine LinStep.yes fun vals γ w' ρ hR hN hp hρ hc hf hg => ⟨by show (boolOf (vals 8) == some false) = true; rw [show vals 8 = .bool false from hp 8 (by decide)]; rfl, ?_⟩
          have e8 : ρ (.tmp 8) = .int .i64 (k : Int) := hρ 8
          have hx := hR.drew_ext
          have HR := Lib.hid hR
          have HN := Lib.hid hN
          clear hR hN hp hρ hx
          go_light
          go_simp
          exact ⟨γ, LR.refl _ _, fun _ _ _ h => h, rfl⟩
        · refine LinStep.yes fun vals γ w' ρ hR hN hp hρ hc hf hg => ⟨by show (boolOf (vals 8) == some false) = true; rw [show vals 8 = .bool false from hp 8 (by decide)]; rfl, ?_⟩
          have e36 : ρ (.tmp 36) = .slice (some ⟨bl, ol, none⟩) m cl := (hρ 36).trans (hp 12 (by decide))
          have e37 : ρ (.tmp 37) = .int .i64 (k : Int) := (hρ 37).trans (hp 13 (by decide))
          have hx := hR.drew_ext
          have i0 : (0 : Int) ≤ (k : Int) := by omega
          have i1 : (k : Int) < (m : Int) := by omega
          have HR := Lib.hid hR
          have HN := Lib.hid hN
          clear hR hN hp hρ hx
          go_light
          go_simp
          exact ⟨γ, LR.refl _ _, fun _ _ _ h => h, rfl⟩
        · refine LinStep.yes fun vals γ w' ρ hR hN hp hρ hc hf hg => ⟨by show (boolOf (vals 8) == some false) = true; rw [show vals 8 = .bool false from hp 8 (by decide)]; rfl, ?_⟩
          have e38 : ρ (.tmp 38) = .pointer (some ⟨bl, ol + k, none⟩) := (hρ 38).trans (hp 14 (by decide))
          have hx := hR.drew_ext
          have z0 := hx.cell Z0.out
          have HR := Lib.hid hR
          have HN := Lib.hid hN
          clear hR hN hp hρ hx
          go_light
          go_simp
          exact ⟨γ, LR.refl _ _, fun _ _ _ h => h, rfl⟩
        · refine LinStep.yes fun vals γ w' ρ hR hN hp hρ hc hf hg => ⟨by show (boolOf (vals 8) == some false) = true; rw [show vals 8 = .bool false from hp 8 (by decide)]; rfl, ?_⟩
          have e35 : ρ (.tmp 35) = .slice (some ⟨bl, ol, none⟩) k cl := (hρ 35).trans (hp 11 (by decide))
          have e39 : ρ (.tmp 39) = .string nm := (hρ 39).trans (hp 15 (by decide))
          have hx := hR.drew_ext
          have HR := Lib.hid hR
          have HN := Lib.hid hN
          clear hR hN hp hρ hx
          go_light
          go_simp
          have hix := r09_index (some ⟨bl, ol, none⟩) cl (cols.take k) nm w' _ (HTK.out.keep (HR.out.drew_ext.kept _))
          rw [HTKL.out] at hix
          refine (hix).mono ?_
          rintro e' w3 ⟨he, rfl⟩
          rw [← HP2.out] at he
          exact ⟨_, he, γ, LR.refl _ _, fun _ _ _ h => h, rfl⟩
        · refine LinStep.yes fun vals γ w' ρ hR hN hp hρ hc hf hg => ⟨by show (boolOf (vals 8) == some false) = true; rw [show vals 8 = .bool false from hp 8 (by decide)]; rfl, ?_⟩
          have e40 : ρ (.tmp 40) = .int .i64 p2 := (hρ 40).trans (hp 16 (by decide))
          have hx := hR.drew_ext
          have hd := HB2E.out
          have HR := Lib.hid hR
          have HN := Lib.hid hN
          clear hR hN hp hρ hx
          go_light
          go_simp
          exact ⟨γ, LR.refl _ _, fun _ _ _ h => h, rfl⟩
        · refine LinStep.yes fun vals γ w' ρ hR hN hp hρ hc hf hg => ⟨rfl, ?_⟩
          have e32 : ρ (.tmp 32) = .bool false := (hρ 32).trans (hp 8 (by decide))
          have e41 : ρ (.tmp 41) = .bool b2 := (hρ 41).trans (hp 17 (by decide))
          have hx := hR.drew_ext
          have HR := Lib.hid hR
          have HN := Lib.hid hN
          clear hR hN hp hρ hx
          go_light
          go_simp
          refine ⟨γ, LR.refl _ _, fun _ _ _ h => h, ?_⟩
          rfl
        · intro vals γ w6 hR hG
          have h18 : vals 18 = .bool (false || b2) := hG 18 (by decide)
          rw [Bool.false_or] at h18
          have hx6 := hR.drew_ext
          have HX6 := Lib.hid (HM1.out.ext.trans hx6)
          have HM6 := Lib.hid (HM1.out.more hx6)
          have HB26 := Lib.hid (HB22.out.keep (hx6.kept _))
          clear hR hG hx6
          simp only [lexFrame, Act.put, List.setIfInBounds_toArray, List.set_cons_succ, List.set_cons_zero, Nat.zero_add, Nat.reduceAdd, h18]
          generalize vals 0 = u0, vals 1 = u1, vals 2 = u2, vals 3 = u3, vals 4 = u4, vals 5 = u5, vals 6 = u6, vals 7 = u7, vals 8 = u8, vals 9 = u9, vals 10 = u10, vals 11 = u11, vals 12 = u12, vals 13 = u13, vals 14 = u14, vals 15 = u15, vals 16 = u16, vals 17 = u17
          clear h18 HM1 K5 K5' Z0 HTC HTK
          have hn := HNT.out
          have hm := HMT.out
          clear HNT HMT
          subst hn
          subst hm
          cases b2
          · obtain ⟨cs, hcs⟩ : ∃ cs, cs = cols.take k := ⟨_, rfl⟩
            rw [← hcs] at HM6
            have HCS := Lib.hid hcs
            have hcsl : cs.length ≤ 4294967296 := by rw [hcs, List.length_take]; omega
            have HM := HM6
            have HCD := Lib.hid (show ∀ w', Kept (fun b => b < lo ∧ b ≠ go) w0 w' → w'.cell? ⟨bl, ol + k, none⟩ = some (.string nm) from fun w' hk => (World.cell?_of_block (w := w0) (hk.2 bl ⟨by omega, by omega⟩ (Nat.lt_of_lt_of_le hbl HXW.out.size))).trans (HXW.out.cell HCL0.out))
            clear hcs
            go_upto_region 10 with fail
            obtain ⟨m, hm⟩ : ∃ m, m = cols.length := ⟨_, rfl⟩
            have HMT := Lib.hid hm
            rw [← hm]
            have hkm : k < m := by omega
            clear hm
            refine wp_region_lin_lit (by kernel_rfl) dPkA (by kernel_rfl) (SR (PkAInv w w0 lo go Ac cc cs bl ol m cl k nm)) (SR.refl _) (SR.trans _) (SN stPkA) (gPkA w w0 lo go Ac cc cs bl ol m cl k nm) (gPkA_st _ _ _ _ _ _ _ _ _ _ _ _ _) 0 (SN.zero (by decide)) ⟨?_, ?_, ?_, ?_, ?_, ?_, ?_, ?_, ?_, ?_, trivial⟩ ?_
            · refine LinStep.yes fun vals γ w' ρ hR hN hp hρ hc hf hg => ⟨rfl, ?_⟩
              have hi := hR.inv ⟨by omega, fun _ => HM.out.more (Ext.refl _).drew, fun _ => (HM.out.more (Ext.refl _).drew).kept⟩
              have e7 : ρ (.tmp 7) = .pointer (some ⟨go, 0, none⟩) := hρ 7
              clear hR hN hp hρ hi
              go_light
              go_simp
              exact ⟨γ, SR.refl _ _ _, fun _ _ _ h => h, rfl⟩
            · refine LinStep.yes fun vals γ w' ρ hR hN hp hρ hc hf hg => ⟨rfl, ?_⟩
              have hi := hR.inv ⟨by omega, fun _ => HM.out.more (Ext.refl _).drew, fun _ => (HM.out.more (Ext.refl _).drew).kept⟩
              have e44 : ρ (.tmp 44) = _ := (hρ 44).trans (hp 0 (by decide))
              have hb := (hi.2.1 (by have h : γ < 2 := hN; omega)).out
              have k1 := hb.cell (i := 5) rfl
              clear hR hN hp hρ hi hb
              go_light
              go_simp
              exact ⟨γ, SR.refl _ _ _, fun _ _ _ h => h, rfl⟩
            · refine LinStep.yes fun vals γ w' ρ hR hN hp hρ hc hf hg => ⟨rfl, ?_⟩
              have hi := hR.inv ⟨by omega, fun _ => HM.out.more (Ext.refl _).drew, fun _ => (HM.out.more (Ext.refl _).drew).kept⟩
              have e1 : ρ (.tmp 1) = .slice (some ⟨bl, ol, none⟩) m cl := hρ 1
              clear hR hN hp hρ hi
              go_light
              go_simp
              exact ⟨γ, SR.refl _ _ _, fun _ _ _ h => h, rfl⟩
            · refine LinStep.yes fun vals γ w' ρ hR hN hp hρ hc hf hg => ⟨rfl, ?_⟩
              have hi := hR.inv ⟨by omega, fun _ => HM.out.more (Ext.refl _).drew, fun _ => (HM.out.more (Ext.refl _).drew).kept⟩
              have e8 : ρ (.tmp 8) = .int .i64 (k : Int) := hρ 8
              clear hR hN hp hρ hi
              go_light
              go_simp
              exact ⟨γ, SR.refl _ _ _, fun _ _ _ h => h, rfl⟩
            · refine LinStep.yes fun vals γ w' ρ hR hN hp hρ hc hf hg => ⟨rfl, ?_⟩
              have hi := hR.inv ⟨by omega, fun _ => HM.out.more (Ext.refl _).drew, fun _ => (HM.out.more (Ext.refl _).drew).kept⟩
              have e46 : ρ (.tmp 46) = _ := (hρ 46).trans (hp 2 (by decide))
              have e47 : ρ (.tmp 47) = _ := (hρ 47).trans (hp 3 (by decide))
              have i0 : (0 : Int) ≤ (k : Int) := by omega
              have i1 : (k : Int) < (m : Int) := by omega
              clear hR hN hp hρ hi
              go_light
              go_simp
              exact ⟨γ, SR.refl _ _ _, fun _ _ _ h => h, rfl⟩
            · refine LinStep.yes fun vals γ w' ρ hR hN hp hρ hc hf hg => ⟨rfl, ?_⟩
              have hi := hR.inv ⟨by omega, fun _ => HM.out.more (Ext.refl _).drew, fun _ => (HM.out.more (Ext.refl _).drew).kept⟩
              have e48 : ρ (.tmp 48) = _ := (hρ 48).trans (hp 4 (by decide))
              have k1 := HCD.out _ (hi.2.2 (by have h : γ < 3 := hN; omega))
              clear hR hN hp hρ hi
              go_light
              go_simp
              exact ⟨γ, SR.refl _ _ _, fun _ _ _ h => h, rfl⟩
            · refine LinStep.yes fun vals γ w' ρ hR hN hp hρ hc hf hg => ⟨rfl, ?_⟩
              have hi := hR.inv ⟨by omega, fun _ => HM.out.more (Ext.refl _).drew, fun _ => (HM.out.more (Ext.refl _).drew).kept⟩
              have e49 : ρ (.tmp 49) = _ := (hρ 49).trans (hp 5 (by decide))
              have h0 : γ = 0 := by have h : γ < 1 := hN; omega
              subst h0
              have HI := Lib.hid (hi.2.1 (by omega))
              clear hR hN hp hρ hi
              go_light
              go_simp
              have hx1 : Ext w' (w'.alloc (.cells #[.string nm] 9)) := (Ext.refl _).alloc _
              exact ⟨1, SR.up (by omega) ⟨by omega, fun _ => HI.out.more hx1, fun _ => (HI.out.more hx1).kept⟩, SN.up (by omega) (by decide) rfl, _, rfl, by omega, fun _ => Blk.new _ _ _⟩
            · refine LinStep.yes fun vals γ w' ρ hR hN hp hρ hc hf hg => ⟨rfl, ?_⟩
              have hi := hR.inv ⟨by omega, fun _ => HM.out.more (Ext.refl _).drew, fun _ => (HM.out.more (Ext.refl _).drew).kept⟩
              obtain ⟨g', g6, hr2, hbk⟩ := hp 6 (by decide)
              have e50 : ρ (.tmp 50) = _ := (hρ 50).trans g6
              have e45 : ρ (.tmp 45) = _ := (hρ 45).trans (hp 1 (by decide))
              have h0 : γ = 1 := by have h : γ < 2 := hN; omega
              subst h0
              have hot := hi.2.1 (by omega)
              have hbk1 := hbk rfl
              refine lin_app (.tmp 45) (.tmp 50) rfl tiS e45 hot.cols.1 e50 hbk1.rd rfl (by simp [Value.oneCell']) (by omega) (by decide) hot.golo.2.2 ?_
              intro A4 c4 w4 hown4 hg4 hat4
              have hota := hot.app HNZ.out hg4 hown4
              exact ⟨2, SR.up (by omega) ⟨by omega, fun h => absurd h (by omega), fun _ => hota.kept⟩, SN.up (by omega) (by decide) rfl, A4, c4, rfl, by omega, fun _ => hota⟩
            · refine LinStep.yes fun vals γ w' ρ hR hN hp hρ hc hf hg => ⟨rfl, ?_⟩
              have hi := hR.inv ⟨by omega, fun _ => HM.out.more (Ext.refl _).drew, fun _ => (HM.out.more (Ext.refl _).drew).kept⟩
              have e7 : ρ (.tmp 7) = .pointer (some ⟨go, 0, none⟩) := hρ 7
              clear hR hN hp hρ hi
              go_light
              go_simp
              exact ⟨γ, SR.refl _ _ _, fun _ _ _ h => h, rfl⟩
            · refine LinStep.yes fun vals γ w' ρ hR hN hp hρ hc hf hg => ⟨rfl, ?_⟩
              have hi := hR.inv ⟨by omega, fun _ => HM.out.more (Ext.refl _).drew, fun _ => (HM.out.more (Ext.refl _).drew).kept⟩
              obtain ⟨A4, c4, g7, hr3, hda⟩ := hp 7 (by decide)
              have e51 : ρ (.tmp 51) = _ := (hρ 51).trans g7
              have e52 : ρ (.tmp 52) = _ := (hρ 52).trans (hp 8 (by decide))
              have h0 : γ = 2 := by have h : γ < 3 := hN; omega
              subst h0
              have HA := Lib.hid (hda rfl)
              obtain ⟨y, hy⟩ := (hda rfl).out
              have k0 := hy.cell (i := 5) rfl
              have kf := hy.frozen
              have kz := hy.lt
              clear hR hN hp hρ hi g7 hda hy
              go_light
              go_simp
              have hs := HA.out.store
              rw [List.length_append, List.length_singleton] at hs
              exact ⟨3, SR.up (by omega) ⟨by omega, fun h => absurd h (by omega), fun h => absurd h (by omega)⟩, SN.up (by omega) (by decide) rfl, by omega, fun _ => ⟨A4, c4, hs⟩⟩
            · intro vals γ w7 hR hG
              have hi := hR.inv ⟨by omega, fun _ => HM.out.more (Ext.refl _).drew, fun _ => (HM.out.more (Ext.refl _).drew).kept⟩
              obtain ⟨h4, h5⟩ := hG 9 (by decide)
              obtain ⟨A4, c4, hm1⟩ := h5 (by have := hi.1; omega)
              have HM7 := Lib.hid hm1
              clear hR hG hi h4 h5 hm1 HM HM6
              simp only [lexFrame, Act.put, List.setIfInBounds_toArray, List.set_cons_succ, List.set_cons_zero, Nat.zero_add, Nat.reduceAdd]
              generalize vals 0 = u0, vals 1 = u1, vals 2 = u2, vals 3 = u3, vals 4 = u4, vals 5 = u5, vals 6 = u6, vals 7 = u7, vals 8 = u8, vals 9 = u9
              have hm := HMT.out
              clear HMT
              subst hm
              go_wp2
              go_roundw
              case rel => exact ⟨k + 1, A4, c4, by omega, by go_num, by rw [List.take_succ_eq_append_getElem hlt, ← HCS.out, ← HNM.out]; exact HM7.out, pickOK_succ HPK.out hlt (by rw [← HNM.out, ← HPE.out]; omega) (by rw [← HNM.out]; exact HMB.out)⟩
              case measure => simp [intOf]; omega
          · have HF := Lib.hid (show pickS t cols = (Val.zero, 13) by
              unfold pickS
              rw [HT.out, pickB_false hlt (by rw [← HNM.out, HMB.out]; simp)]
              rfl)
            have r0 := HB26.out.cell (i := 0) rfl
            have r1 := HB26.out.cell (i := 1) rfl
            have r2 := HB26.out.cell (i := 2) rfl
            have r3 := HB26.out.cell (i := 3) rfl
            have r4 := HB26.out.cell (i := 4) rfl
            have r5 := HB26.out.cell (i := 5) rfl
            have r6 := HB26.out.cell (i := 6) rfl
            have rf := HB26.out.frozen
            have rz := HB26.out.lt
            go_wp2
            rw [HF.out]
            refine bodyPost_ret (v := .tuple #[(.agg #[.int .i64 Val.zero.kind, .string Val.zero.s, .int .i64 Val.zero.dn, .int .i64 Val.zero.ds, .int .i64 Val.zero.n, .slice none Val.zero.cols.length 0, .slice none Val.zero.rows.length 0]), .int .i64 13]) (by simp [results, Tryz.results33, go_sem, r0, r1, r2, r3, r4, r5, r6, Val.zero]) rfl ⟨none, 0, none, 0, rfl, ⟨Nat.le_refl _, Nat.le_refl _⟩, RV.zero, ?_⟩
            iterate 7 with_reducible refine Ext.set2 ?_ (by omega) _
            with_reducible exact HX6.out
    · have hkr : k = cols.length := by omega
      subst hkr
      have HPB := Lib.hid (pickB_true HPK.out)
      have HF := Lib.hid (show pickS t cols = (tabV cols (t.rows.map (pickRow t.cols cols)), 0) by
        unfold pickS
        rw [HT.out, HPB.out]
        rfl)
      obtain ⟨X, hX⟩ : ∃ X : Nat → Prop, X = fun b => S' b ∨ w.heap.size + 2 ≤ b := ⟨_, rfl⟩
      have HXE := Lib.hid hX
      have HM0 := Lib.hid (show OutT w w0 lo X d go Ac cc cols none 0 ((t.rows.take 0).map (pickRow t.cols cols)) wr by
        have h1 := HM1.out
        rw [List.take_of_length_le (Nat.le_refl _)] at h1
        exact h1.outT d hcl fun b hb => by rw [hX]; exact .inr (by omega))
      have HCAP := Lib.hid (show cols.length ≤ cc by have h1 := HM1.out.cols.1.cap; rwa [List.take_of_length_le (Nat.le_refl _)] at h1)
      clear HM1 HKP HB22 hX
      go_wp2
      go_loopw [9] (fun i wr => ∃ (k : Nat) (Ar : Option Addr) (cr : Nat), k ≤ t.rows.length ∧ i = .int .i64 k ∧ OutT w w0 lo X d go Ac cc cols Ar cr ((t.rows.take k).map (pickRow t.cols cols)) wr) (fun i _ => t.rows.length - (intOf i).toNat)
      case atStart => exact ⟨0, none, 0, Nat.zero_le _, rfl, HM0.out⟩
      case round =>
        clear HM0
        obtain ⟨k, Ar, cr, hk2, rfl, hm0⟩ := hrel
        have HM1 := Lib.hid hm0
        have HKP := Lib.hid (hm0.kept.mono (T := fun b => b < w.heap.size + 2) fun b _ hb => ⟨by omega, by omega⟩)
        have k6 := (HB0.out.keep (HKP.out.mono fun b _ e => by omega)).cell (i := 6) rfl
        have kz := (HB0.out.keep (HKP.out.mono fun b _ e => by omega)).lt
        clear hm0
        by_cases hlt : k < t.rows.length
        · obtain ⟨b, o, C, ec, hB, hb, hc0, hcp, hrow⟩ := H.out.rows_.at_ hlt
          obtain ⟨r, hr⟩ : ∃ r, r = t.rows[k] := ⟨_, rfl⟩
          have HRLEN := Lib.hid (show r.length = t.cols.length by rw [hr]; exact isTab_row HT.out hlt)
          rw [← hr] at hc0 hcp hrow
          have HRE := Lib.hid hr
          have HROW := Lib.hid hrow
          subst hB
          have HC0 := Lib.hid hc0
          obtain ⟨wo, rfl⟩ : ∃ wo : World, wo = wr := ⟨_, rfl⟩
          obtain ⟨pr, hpr⟩ : ∃ pr, pr = pickRow t.cols cols r := ⟨_, rfl⟩
          have HPR := Lib.hid hpr
          have HPRL := Lib.hid (show pr.length = cols.length by rw [hpr]; simp [pickRow])
          have hbw : b < w.heap.size := hb
          clear hc0 hr hrow hpr
          go_wp2
          go_loopw [11, 10] (fun i v wi => ∃ (j : Nat) (A5 : Option Addr) (c5 : Nat), j ≤ cols.length ∧ i = .int .i64 j ∧ v = .slice A5 j c5 ∧ Ext wo wi ∧ OwnVs wi wo.heap.size S' d A5 c5 (pr.take j)) (fun i _ _ => cols.length - (intOf i).toNat)
          case atStart => exact ⟨0, none, 0, Nat.zero_le _, rfl, rfl, Ext.refl wo, OwnVs.nil _ _ _ _⟩
          case round =>
            obtain ⟨j, A5, c5, hj, rfl, rfl, hbi, hoi⟩ := hrel
            have HBI := Lib.hid hbi
            have hszi := hbi.size
            have hwow : w.heap.size + 2 ≤ wo.heap.size := by have := HM1.out.golo; omega
            by_cases hlt2 : j < cols.length
            · obtain ⟨bl, ol, hAl, hbl, hcl0⟩ := HL.out.at_ hlt2
              subst hAl
              obtain ⟨nm, hnm⟩ : ∃ nm, nm = cols[j] := ⟨_, rfl⟩
              rw [← hnm] at hcl0
              have hp0 := (HPK.out j hlt2 hlt2).1
              obtain ⟨pn, hpn, hpc, -⟩ := idxS_at hp0
              rw [← hnm] at hpn
              have hpr2 : pn < r.length := by rw [HRLEN.out]; exact hpc
              obtain ⟨b2, o2, Ay, cy, By, ey, hC, hb2, hyc, ⟨hdp, hcy⟩, hyv⟩ := HROW.out.at_ hpr2
              subst hC
              obtain ⟨y, hy⟩ : ∃ y, y = r[pn] := ⟨_, rfl⟩
              rw [← hy] at hyc hyv hcy
              have HYE := Lib.hid (show ∃ h : j < pr.length, pr[j] = y by
                refine ⟨by rw [HPRL.out]; exact hlt2, ?_⟩
                have h1 : pr[j]? = some (r.getD pn Val.zero) := by rw [HPR.out, pickRow, List.getElem?_map, List.getElem?_eq_getElem hlt2]; simp [← hnm, hpn]
                rw [List.getElem?_eq_getElem (by rw [HPRL.out]; exact hlt2)] at h1
                rw [Option.some.inj h1, List.getD_eq_getElem?_getD, List.getElem?_eq_getElem hpr2, Option.getD_some, hy])
              obtain ⟨HH, hHH⟩ : ∃ HH, HH = wo.heap.size := ⟨_, rfl⟩
              obtain ⟨wi, rfl⟩ : ∃ wi : World, wi = wr := ⟨_, rfl⟩
              have HHW := Lib.hid (show HH ≤ wi.heap.size by omega)
              obtain ⟨l, hl⟩ : ∃ l, l = pr.take j := ⟨_, rfl⟩
              have hlj : l.length = j := by rw [hl, List.length_take, HPRL.out]; omega
              have HLE := Lib.hid hl
              have HOI := Lib.hid (show OwnVs wi HH S' d A5 c5 l by rw [hl, hHH]; exact hoi)
              have HWI := Lib.hid (HM1.out.ext.trans HBI.out)
              have lowA : ∀ w', Below HH wi w' → Kept (fun b => b < w.heap.size + 2) wi w' := fun w' hb => Kept.of_below hb fun b hb _ => by omega
              have lowc : ∀ w', Below HH wi w' → ∀ (p : Addr) (u : Value), p.block < w.heap.size → w.cell? p = some u → w'.cell? p = some u := fun w' hb p u hp hc => (World.cell?_of_block (w := wi) ((lowA w' hb).2 p.block (by omega) (by have := HWI.out.size; omega))).trans (HWI.out.cell hc)
              have HB0i := Lib.hid ((HB0.out.keep (HKP.out.mono fun b _ e => by omega)).keep (HBI.out.kept _))
              have L6 := Lib.hid (show ∀ w', Below HH wi w' → w'.cell? ⟨w.heap.size, 6, none⟩ = some (.slice (some ⟨b, o, none⟩) t.rows.length e) from fun w' hb => (HB0i.out.keep ((lowA w' hb).mono fun b _ e => by omega)).cell (i := 6) rfl)
              have L5 := Lib.hid (show ∀ w', Below HH wi w' → w'.cell? ⟨w.heap.size, 5, none⟩ = some (.slice A t.cols.length c) from fun w' hb => (HB0i.out.keep ((lowA w' hb).mono fun b _ e => by omega)).cell (i := 5) rfl)
              have LR := Lib.hid (show ∀ w', Below HH wi w' → w'.cell? ⟨b, o + k, none⟩ = some (.slice (some ⟨b2, o2, none⟩) r.length ec) from fun w' hb' => lowc w' hb' _ _ hbw HC0.out)
              have LN := Lib.hid (show ∀ w', Below HH wi w' → w'.cell? ⟨bl, ol + j, none⟩ = some (.string nm) from fun w' hb' => lowc w' hb' _ _ hbl hcl0)
              have LY := Lib.hid (show ∀ w', Below HH wi w' → (w'.cell? ⟨b2, o2 + pn * 7, none⟩ = some (.int .i64 y.kind) ∧ w'.cell? ⟨b2, o2 + pn * 7 + 1, none⟩ = some (.string y.s) ∧ w'.cell? ⟨b2, o2 + pn * 7 + 2, none⟩ = some (.int .i64 y.dn) ∧ w'.cell? ⟨b2, o2 + pn * 7 + 3, none⟩ = some (.int .i64 y.ds) ∧ w'.cell? ⟨b2, o2 + pn * 7 + 4, none⟩ = some (.int .i64 y.n) ∧ w'.cell? ⟨b2, o2 + pn * 7 + 5, none⟩ = some (.slice Ay y.cols.length cy) ∧ w'.cell? ⟨b2, o2 + pn * 7 + 6, none⟩ = some (.slice By y.rows.length ey)) from fun w' hb' => by
                obtain ⟨y0, y1, y2, y3, y4, y5, y6⟩ := hyc
                exact ⟨lowc w' hb' _ _ hb2 y0, lowc w' hb' _ _ hb2 y1, lowc w' hb' _ _ hb2 y2, lowc w' hb' _ _ hb2 y3, lowc w' hb' _ _ hb2 y4, lowc w' hb' _ _ hb2 y5, lowc w' hb' _ _ hb2 y6⟩)
              have HTC := Lib.hid (show ∀ w', Below HH wi w' → Strs w' S' A t.cols from fun w' hb' => (H.out.strs.keep (HWI.out.kept _)).keep ((lowA w' hb').mono fun b _ hs => by have := HSL.out b hs; omega))
              have HYV := Lib.hid (show ∀ w', Below HH wi w' → RV w' S' (d - 1) y Ay By from fun w' hb' => (hyv.keep (HWI.out.kept _)).keep ((lowA w' hb').mono fun b _ hs => by have := HSL.out b hs; omega))
              have HXH := Lib.hid (show ∀ b, S' b → b < HH from fun b hs => by have := HSL.out b hs; omega)
              have HCY := Lib.hid hcy
              have HPN := Lib.hid hpn
              obtain ⟨tc, htc⟩ : ∃ tc, tc = t.cols := ⟨_, rfl⟩
              rw [← htc] at HTC HPN
              have HTCE := Lib.hid htc
              obtain ⟨n, hn⟩ : ∃ n, n = t.cols.length := ⟨_, rfl⟩
              obtain ⟨m, hm⟩ : ∃ m, m = cols.length := ⟨_, rfl⟩
              obtain ⟨nr, hnr⟩ : ∃ nr, nr = t.rows.length := ⟨_, rfl⟩
              obtain ⟨rn, hrn⟩ : ∃ rn, rn = r.length := ⟨_, rfl⟩
              obtain ⟨gt, hgt⟩ : ∃ gt, gt = w.heap.size := ⟨_, rfl⟩
              have HNT := Lib.hid (show n = tc.length by rw [htc]; exact hn)
              have hjm : j < m := by omega
              have hknr : k < nr := by omega
              have hprn : pn < rn := by omega
              rw [← hn, ← hgt] at L5
              rw [← hnr, ← hgt] at L6
              rw [← hrn] at LR
              have hlcap : j ≤ 4294967296 := by omega
              clear hoi hbi hnm hp0 hpn hpc hyc hyv hcy hy hcl0 lowA lowc htc hpr2 hl k6 kz
              go_upto_region 18 with fail
              rw [← hn, ← hm, ← hnr, ← hgt]
              have HLJ := Lib.hid hlj
              have HE1 := Lib.hid hn
              have HE2 := Lib.hid hm
              have HE3 := Lib.hid hnr
              have HE4 := Lib.hid hrn
              have HE5 := Lib.hid hgt
              have HE6 := Lib.hid hHH
              obtain ⟨X', hX'⟩ : ∃ X', X' = S' := ⟨_, rfl⟩
              subst hX'
              clear hlj hn hm hnr hrn hgt hHH
              refine wp_region_lin_lit (by kernel_rfl) dPkB (by kernel_rfl) (SR (PkBInv wi HH X' d A5 c5 l gt A n c b o nr e k b2 o2 rn ec bl ol m cl j nm pn y Ay cy By ey)) (SR.refl _) (SR.trans _) (SN stPkB) (gPkB wi HH X' d A5 c5 l gt A n c b o nr e k b2 o2 rn ec bl ol m cl j nm pn y Ay cy By ey) (gPkB_st _ _ _ _ _ _ _ _ _ _ _ _ _ _ _ _ _ _ _ _ _ _ _ _ _ _ _ _ _ _ _ _) 0 (SN.zero (by decide)) ⟨?_, ?_, ?_, ?_, ?_, ?_, ?_, ?_, ?_, ?_, ?_, ?_, ?_, ?_, ?_, ?_, ?_, ?_, trivial⟩ ?_
              · refine LinStep.yes fun vals γ w' ρ hR hN hp hρ hc hf hg => ⟨rfl, ?_⟩
                have hi := hR.inv ⟨by omega, fun _ => (Ext.refl wi).drew, (Ext.refl wi).drew.mono HHW.out⟩
                have e10 : ρ (.tmp 10) = .slice A5 j c5 := hρ 10
                clear hR hN hp hρ hi
                go_light
                go_simp
                exact ⟨γ, SR.refl _ _ _, fun _ _ _ h => h, rfl⟩
              · refine LinStep.yes fun vals γ w' ρ hR hN hp hρ hc hf hg => ⟨rfl, ?_⟩
                have hi := hR.inv ⟨by omega, fun _ => (Ext.refl wi).drew, (Ext.refl wi).drew.mono HHW.out⟩
                have e2 : ρ (.tmp 2) = .pointer (some ⟨gt, 0, none⟩) := hρ 2
                clear hR hN hp hρ hi
                go_light
                go_simp
                exact ⟨γ, SR.refl _ _ _, fun _ _ _ h => h, rfl⟩
              · refine LinStep.yes fun vals γ w' ρ hR hN hp hρ hc hf hg => ⟨rfl, ?_⟩
                have hi := hR.inv ⟨by omega, fun _ => (Ext.refl wi).drew, (Ext.refl wi).drew.mono HHW.out⟩
                have e67 : ρ (.tmp 67) = _ := (hρ 67).trans (hp 1 (by decide))
                have k1 := L6.out _ hi.2.2
                clear hR hN hp hρ hi
                go_light
                go_simp
                exact ⟨γ, SR.refl _ _ _, fun _ _ _ h => h, rfl⟩
              · refine LinStep.yes fun vals γ w' ρ hR hN hp hρ hc hf hg => ⟨rfl, ?_⟩
                have hi := hR.inv ⟨by omega, fun _ => (Ext.refl wi).drew, (Ext.refl wi).drew.mono HHW.out⟩
                have e9 : ρ (.tmp 9) = .int .i64 (k : Int) := hρ 9
                clear hR hN hp hρ hi
                go_light
                go_simp
                exact ⟨γ, SR.refl _ _ _, fun _ _ _ h => h, rfl⟩
              · refine LinStep.yes fun vals γ w' ρ hR hN hp hρ hc hf hg => ⟨rfl, ?_⟩
                have hi := hR.inv ⟨by omega, fun _ => (Ext.refl wi).drew, (Ext.refl wi).drew.mono HHW.out⟩
                have e68 : ρ (.tmp 68) = _ := (hρ 68).trans (hp 2 (by decide))
                have e69 : ρ (.tmp 69) = _ := (hρ 69).trans (hp 3 (by decide))
                have i0 : (0 : Int) ≤ (k : Int) := by omega
                have i1 : (k : Int) < (nr : Int) := by omega
                clear hR hN hp hρ hi
                go_light
                go_simp
                exact ⟨γ, SR.refl _ _ _, fun _ _ _ h => h, rfl⟩
              · refine LinStep.yes fun vals γ w' ρ hR hN hp hρ hc hf hg => ⟨rfl, ?_⟩
                have hi := hR.inv ⟨by omega, fun _ => (Ext.refl wi).drew, (Ext.refl wi).drew.mono HHW.out⟩
                have e70 : ρ (.tmp 70) = _ := (hρ 70).trans (hp 4 (by decide))
                have k1 := LR.out _ hi.2.2
                clear hR hN hp hρ hi
                go_light
                go_simp
                exact ⟨γ, SR.refl _ _ _, fun _ _ _ h => h, rfl⟩
              · refine LinStep.yes fun vals γ w' ρ hR hN hp hρ hc hf hg => ⟨rfl, ?_⟩
                have hi := hR.inv ⟨by omega, fun _ => (Ext.refl wi).drew, (Ext.refl wi).drew.mono HHW.out⟩
                have e2 : ρ (.tmp 2) = .pointer (some ⟨gt, 0, none⟩) := hρ 2
                clear hR hN hp hρ hi
                go_light
                go_simp
                exact ⟨γ, SR.refl _ _ _, fun _ _ _ h => h, rfl⟩
              · refine LinStep.yes fun vals γ w' ρ hR hN hp hρ hc hf hg => ⟨rfl, ?_⟩
                have hi := hR.inv ⟨by omega, fun _ => (Ext.refl wi).drew, (Ext.refl wi).drew.mono HHW.out⟩
                have e72 : ρ (.tmp 72) = _ := (hρ 72).trans (hp 6 (by decide))
                have k1 := L5.out _ hi.2.2
                clear hR hN hp hρ hi
                go_light
                go_simp
                exact ⟨γ, SR.refl _ _ _, fun _ _ _ h => h, rfl⟩
              · refine LinStep.yes fun vals γ w' ρ hR hN hp hρ hc hf hg => ⟨rfl, ?_⟩
                have hi := hR.inv ⟨by omega, fun _ => (Ext.refl wi).drew, (Ext.refl wi).drew.mono HHW.out⟩
                have e1 : ρ (.tmp 1) = .slice (some ⟨bl, ol, none⟩) m cl := hρ 1
                clear hR hN hp hρ hi
                go_light
                go_simp
                exact ⟨γ, SR.refl _ _ _, fun _ _ _ h => h, rfl⟩
              · refine LinStep.yes fun vals γ w' ρ hR hN hp hρ hc hf hg => ⟨rfl, ?_⟩
                have hi := hR.inv ⟨by omega, fun _ => (Ext.refl wi).drew, (Ext.refl wi).drew.mono HHW.out⟩
                have e11 : ρ (.tmp 11) = .int .i64 (j : Int) := hρ 11
                clear hR hN hp hρ hi
                go_light
                go_simp
                exact ⟨γ, SR.refl _ _ _, fun _ _ _ h => h, rfl⟩
              · refine LinStep.yes fun vals γ w' ρ hR hN hp hρ hc hf hg => ⟨rfl, ?_⟩
                have hi := hR.inv ⟨by omega, fun _ => (Ext.refl wi).drew, (Ext.refl wi).drew.mono HHW.out⟩
                have e74 : ρ (.tmp 74) = _ := (hρ 74).trans (hp 8 (by decide))
                have e75 : ρ (.tmp 75) = _ := (hρ 75).trans (hp 9 (by decide))
                have i0 : (0 : Int) ≤ (j : Int) := by omega
                have i1 : (j : Int) < (m : Int) := by omega
                clear hR hN hp hρ hi
                go_light
                go_simp
                exact ⟨γ, SR.refl _ _ _, fun _ _ _ h => h, rfl⟩
              · refine LinStep.yes fun vals γ w' ρ hR hN hp hρ hc hf hg => ⟨rfl, ?_⟩
                have hi := hR.inv ⟨by omega, fun _ => (Ext.refl wi).drew, (Ext.refl wi).drew.mono HHW.out⟩
                have e76 : ρ (.tmp 76) = _ := (hρ 76).trans (hp 10 (by decide))
                have k1 := LN.out _ hi.2.2
                clear hR hN hp hρ hi
                go_light
                go_simp
                exact ⟨γ, SR.refl _ _ _, fun _ _ _ h => h, rfl⟩
              · refine LinStep.yes fun vals γ w' ρ hR hN hp hρ hc hf hg => ⟨rfl, ?_⟩
                have hi := hR.inv ⟨by omega, fun _ => (Ext.refl wi).drew, (Ext.refl wi).drew.mono HHW.out⟩
                have e73 : ρ (.tmp 73) = _ := (hρ 73).trans (hp 7 (by decide))
                have e77 : ρ (.tmp 77) = _ := (hρ 77).trans (hp 11 (by decide))
                have HB := Lib.hid hi.2.2
                clear hR hN hp hρ hi
                go_light
                go_simp
                have hix := r09_index A c tc nm w' _ (HTC.out _ HB.out)
                rw [← HNT.out] at hix
                refine hix.mono ?_
                rintro e' w3 ⟨he, rfl⟩
                rw [HPN.out] at he
                exact ⟨_, he, γ, SR.refl _ _ _, fun _ _ _ h => h, rfl⟩
              · refine LinStep.yes fun vals γ w' ρ hR hN hp hρ hc hf hg => ⟨rfl, ?_⟩
                have hi := hR.inv ⟨by omega, fun _ => (Ext.refl wi).drew, (Ext.refl wi).drew.mono HHW.out⟩
                have e71 : ρ (.tmp 71) = _ := (hρ 71).trans (hp 5 (by decide))
                have e78 : ρ (.tmp 78) = _ := (hρ 78).trans (hp 12 (by decide))
                have i0 : (0 : Int) ≤ (pn : Int) := by omega
                have i1 : (pn : Int) < (rn : Int) := by omega
                clear hR hN hp hρ hi
                go_light
                go_simp
                exact ⟨γ, SR.refl _ _ _, fun _ _ _ h => h, rfl⟩
              · refine LinStep.yes fun vals γ w' ρ hR hN hp hρ hc hf hg => ⟨rfl, ?_⟩
                have hi := hR.inv ⟨by omega, fun _ => (Ext.refl wi).drew, (Ext.refl wi).drew.mono HHW.out⟩
                have e79 : ρ (.tmp 79) = _ := (hρ 79).trans (hp 13 (by decide))
                obtain ⟨y0, y1, y2, y3, y4, y5, y6⟩ := LY.out _ hi.2.2
                clear hR hN hp hρ hi
                go_light
                go_simp
                exact ⟨γ, SR.refl _ _ _, fun _ _ _ h => h, rfl⟩
              · refine LinStep.yes fun vals γ w' ρ hR hN hp hρ hc hf hg => ⟨rfl, ?_⟩
                have hi := hR.inv ⟨by omega, fun _ => (Ext.refl wi).drew, (Ext.refl wi).drew.mono HHW.out⟩
                have e80 : ρ (.tmp 80) = _ := (hρ 80).trans (hp 14 (by decide))
                have h0 : γ = 0 := by have h : γ < 1 := hN; omega
                subst h0
                have HX := Lib.hid (hi.2.1 (by omega))
                have HB := Lib.hid hi.2.2
                clear hR hN hp hρ hi
                go_light
                go_simp
                exact ⟨1, SR.up (by omega) ⟨by omega, fun _ => HX.out.alloc _, Ext.mono (HX.out.alloc _) HHW.out⟩, SN.up (by omega) (by decide) rfl, _, rfl, by omega, fun _ => Blk.new _ _ _⟩
              · refine LinStep.yes fun vals γ w' ρ hR hN hp hρ hc hf hg => ⟨rfl, ?_⟩
                have hi := hR.inv ⟨by omega, fun _ => (Ext.refl wi).drew, (Ext.refl wi).drew.mono HHW.out⟩
                obtain ⟨g', g6, hr2, hbk⟩ := hp 15 (by decide)
                have e81 : ρ (.tmp 81) = _ := (hρ 81).trans g6
                have e66 : ρ (.tmp 66) = _ := (hρ 66).trans (hp 0 (by decide))
                have h0 : γ = 1 := by have h : γ < 2 := hN; omega
                subst h0
                have hx := hi.2.1 (by omega)
                have hbk1 := hbk rfl
                obtain ⟨xs, ho1, hv1⟩ := HOI.out.ext hx
                rw [HLJ.out] at ho1
                refine lin_app (.tmp 66) (.tmp 81) rfl tiV e66 ho1 e81 hbk1.rd rfl vcells_one (by omega) (by decide) (Nat.le_trans HHW.out hx.size) ?_
                intro A4 c4 w4 hown4 hg4 hat4
                have hxx : Below HH wi w4 := Below.grown (Ext.mono hx HHW.out) hg4 (Nat.le_trans HHW.out hx.size) (fun b hb => (ho1.blk hb).1)
                have hpp := OwnVs.push hv1 (by rw [HLJ.out]; exact hown4) hg4 hat4 ⟨hdp, HCY.out⟩ ((HYV.out _ (Ext.mono hx HHW.out)).mono fun b _ hb => ⟨fun e => by have := (ho1.blk e).1; have := HXH.out b hb; omega, hb⟩)
                exact ⟨2, SR.up (by omega) ⟨by omega, fun h => absurd h (by omega), hxx⟩, SN.up (by omega) (by decide) rfl, A4, c4, rfl, by omega, fun _ => ⟨hpp, hxx⟩⟩
              · refine LinStep.yes fun vals γ w' ρ hR hN hp hρ hc hf hg => ⟨rfl, ?_⟩
                have hi := hR.inv ⟨by omega, fun _ => (Ext.refl wi).drew, (Ext.refl wi).drew.mono HHW.out⟩
                obtain ⟨A4, c4, g16, hr2, hob⟩ := hp 16 (by decide)
                have e82 : ρ (.tmp 82) = _ := (hρ 82).trans g16
                have HOB := Lib.hid hob
                clear hR hN hp hρ hi g16 hob
                go_light
                go_simp
                exact ⟨γ, SR.refl _ _ _, fun _ _ _ h => h, A4, c4, rfl, hr2, HOB.out⟩
              · intro vals γ w7 hR hG
                have hi := hR.inv ⟨by omega, fun _ => (Ext.refl wi).drew, (Ext.refl wi).drew.mono HHW.out⟩
                obtain ⟨A4, c4, hv17, h4, h5⟩ := hG 17 (by decide)
                obtain ⟨hob, hbe⟩ := h5 (by have := hi.1; omega)
                have HOB := Lib.hid hob
                have HBE := Lib.hid hbe
                clear hR hG hi h4 h5 hob hbe
                simp only [lexFrame, Act.put, List.setIfInBounds_toArray, List.set_cons_succ, List.set_cons_zero, Nat.zero_add, Nat.reduceAdd, hv17]
                generalize vals 0 = u0, vals 1 = u1, vals 2 = u2, vals 3 = u3, vals 4 = u4, vals 5 = u5, vals 6 = u6, vals 7 = u7, vals 8 = u8, vals 9 = u9, vals 10 = u10, vals 11 = u11, vals 12 = u12, vals 13 = u13, vals 14 = u14, vals 15 = u15, vals 16 = u16
                clear hv17
                have hn := HE1.out
                have hm := HE2.out
                have hnr := HE3.out
                have hgt := HE5.out
                have hHH := HE6.out
                clear HE1 HE2 HE3 HE4 HE5 HE6
                subst hn hm hnr hgt hHH
                go_wp2
                go_roundw
                case rel =>
                  obtain ⟨hjl, hje⟩ := HYE.out
                  refine ⟨j + 1, A4, c4, by omega, by go_num, rfl, Below.trans HBI.out HBE.out, ?_⟩
                  rw [List.take_succ_eq_append_getElem hjl, hje, ← HLE.out]
                  exact HOB.out
                case measure => simp [intOf]; omega
            · have hjr : j = cols.length := by omega
              subst hjr
              have hor := hoi
              rw [List.take_of_length_le (by rw [HPRL.out]; exact Nat.le_refl _)] at hor
              have hm2 := (HM1.out.more HBI.out).more ((Ext.refl wr).alloc (.cells #[.slice A5 cols.length c5] 45))
              have HM2 := Lib.hid hm2
              have HORW := Lib.hid ((hor.row (T := fun b => ob Ar ≠ some b ∧ X b ∧ b ≠ go) (by rw [HPRL.out]; omega) (fun b hb => ⟨fun e => by have h1 := (HM1.out.rows.blk e).2; have h2 := (hor.blk hb).1; omega, by rw [HXE.out]; have h2 := (hor.blk hb).1; exact .inr (by omega), by have h1 := HM1.out.golo; have h2 := (hor.blk hb).1; omega⟩) (fun b hb => ⟨fun e => by have h1 := (HM1.out.rows.blk e).1; have h2 := HSL.out b hb; omega, by rw [HXE.out]; exact .inl hb, by have h2 := HSL.out b hb; omega⟩)).keep (Kept.alloc _ wr (.cells #[.slice A5 cols.length c5] 45)))
              have HC5 := Lib.hid (show pr.length ≤ c5 by obtain ⟨xs, ho, _⟩ := hor; exact ho.cap)
              obtain ⟨hs, ho1, hv1⟩ := hm2.rows
              have hml : ((t.rows.take k).map (pickRow t.cols cols)).length = k := by rw [List.length_map, List.length_take]; omega
              have HML := Lib.hid hml
              have ho1' := ho1
              rw [hml] at ho1'
              have HO1 := Lib.hid ho1
              have HO1' := Lib.hid ho1'
              have HV1 := Lib.hid hv1
              have hb6 := (HM1.out.more HBI.out).out
              rw [hml] at hb6
              have t6 := hb6.cell (i := 6) rfl
              have tz := hb6.lt
              clear hor hm2 ho1 hv1 hml ho1' hb6 hoi hbi
              go_wp2_with (at_builtin; go_must (refine wpList_app rfl (.tmp 84) (.tmp 86) rfl tiR rfl HO1'.out rfl (Blk.rd (Blk.new _ _ _)) rfl (by simp [Value.oneCell']) (by omega) (by decide) (by have := HM2.out.golo; omega) ?_); intro A4 c4 w4 hown4 hg4 hat4; have hota := HM2.out.app (r := pr) (B := A5) (e := c5) HO1.out HV1.out HC5.out HORW.out (by rw [HML.out, HPRL.out]; exact hown4) hg4 hat4; have HOTA := Lib.hid hota; obtain ⟨yy, hyy⟩ := hota.out; have q6 := hyy.cell (i := 6) rfl; have qf := hyy.frozen; have qz := hyy.lt; clear hota hyy hown4 hg4 hat4)
              go_roundw
              case rel =>
                refine ⟨k + 1, A4, c4, by omega, by go_num, ?_⟩
                have h9 := HOTA.out.store
                rw [List.length_append, HML.out, List.length_singleton] at h9
                rw [List.take_succ_eq_append_getElem hlt, List.map_append, ← HRE.out]
                rw [HPR.out] at h9
                exact h9
              case measure => simp [intOf]; omega
        · have hkr : k = t.rows.length := by omega
          subst hkr
          have hm := HM1.out
          rw [List.take_of_length_le (Nat.le_refl _)] at hm
          have HM := Lib.hid hm
          have hwl : (t.rows.map (pickRow t.cols cols)).length = t.rows.length := List.length_map _
          have HWL := Lib.hid hwl
          have HRS := Lib.hid (HB2.out.keep (HKP.out.mono fun b _ e => by omega))
          have t0 := hm.out.cell (i := 0) rfl
          have t1 := hm.out.cell (i := 1) rfl
          have t2 := hm.out.cell (i := 2) rfl
          have t3 := hm.out.cell (i := 3) rfl
          have t4 := hm.out.cell (i := 4) rfl
          have t5 := hm.out.cell (i := 5) rfl
          have t6 := hm.out.cell (i := 6) rfl
          have HCC := Lib.hid (show cols.length ≤ cc from HCAP.out)
          have r0 := HRS.out.cell (i := 0) rfl
          have r1 := HRS.out.cell (i := 1) rfl
          have r2 := HRS.out.cell (i := 2) rfl
          have r3 := HRS.out.cell (i := 3) rfl
          have r4 := HRS.out.cell (i := 4) rfl
          have r5 := HRS.out.cell (i := 5) rfl
          have r6 := HRS.out.cell (i := 6) rfl
          have rf := HRS.out.frozen
          have rz := HRS.out.lt
          clear hm HM1 hwl
          go_wp2
          rw [HF.out]
          refine bodyPost_ret (v := .tuple #[.agg #[.int .i64 5, .string ⟨#[]⟩, .int .i64 0, .int .i64 0, .int .i64 0, .slice Ac cols.length cc, .slice Ar (t.rows.map (pickRow t.cols cols)).length cr], .int .i64 0]) (by simp [results, Tryz.results33, go_sem, r0, r1, r2, r3, r4, r5, r6]) rfl ⟨Ac, cc, Ar, cr, rfl, ⟨HCC.out, by obtain ⟨hs, ho, _⟩ := HM.out.rows; exact ho.cap⟩, ?_, ?_⟩
          · refine (RV.keep (S := fun b => S' b ∨ w.heap.size + 2 ≤ b) (HM.out.val (by rw [HWL.out]; omega) (fun b hb => .inr (by omega)) (fun b hb => by rw [HXE.out] at hb; exact hb)) ?_).mono fun b _ hb => by
              rcases hb with hb | hb
              · exact .inl (HSS.out b hb)
              · exact .inr (by omega)
            have hne : ¬ (S' (w.heap.size + 1) ∨ w.heap.size + 2 ≤ w.heap.size + 1) := fun h => by
              rcases h with h | h
              · have := HSL.out _ h; omega
              · omega
            iterate 7 with_reducible refine Kept.set2 ?_ hne
            with_reducible exact Kept.refl _ _
          · iterate 7 with_reducible refine Ext.set2 ?_ (by omega) _
            with_reducible exact HM.out.ext
end Go.Proofs.YtcmmkeiiapbgcaaGreatDoor
