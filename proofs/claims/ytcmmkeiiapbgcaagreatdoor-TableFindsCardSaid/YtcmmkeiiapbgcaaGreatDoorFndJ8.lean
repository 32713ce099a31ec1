/- The reference's Odd: a cell replaced. Conditions: the table reads as data, and is regular. -/
import Derived.Test.YtcmmkeiiapbgcaaGreatDoorFndJ7
import Derived.IntWalk
namespace Go.Proofs.YtcmmkeiiapbgcaaGreatDoor
open Go Go.RowKit
def OdEInv (w w2 : World) (q1 q2 : Int) (Ac : Option Addr) (cc m : Nat) (ga cr n K J g e0 : Nat) (γ : Nat) (w' : World) : Prop := γ ≤ 0 ∧ Ext w2 w'
def gOdE (w w2 : World) (q1 q2 : Int) (Ac : Option Addr) (cc m : Nat) (ga cr n K J g e0 : Nat) : Nat → List Value → Nat → World → Prop
  | 0, [v], γ, w' => v = .pointer (some ⟨w.heap.size + 1, 1, none⟩)
  | 1, [v], γ, w' => v = .int .i64 q1
  | 2, [v], γ, w' => v = .pointer (some ⟨w.heap.size, 2, none⟩)
  | 3, [v], γ, w' => v = .slice (some ⟨ga, 0, none⟩) n cr
  | 4, [v], γ, w' => v = .int .i64 (n : Int)
  | 5, [v], γ, w' => v = .int .i64 (q1.tmod (n : Int))
  | 6, [v], γ, w' => v = .pointer (some ⟨w.heap.size, 2, none⟩)
  | 7, [v], γ, w' => v = .slice (some ⟨ga, 0, none⟩) n cr
  | 8, [v], γ, w' => v = .int .i64 (n : Int)
  | 9, [v], γ, w' => v = .int .i64 (q1.tmod (n : Int) + (n : Int))
  | 10, [v], γ, w' => v = .pointer (some ⟨w.heap.size, 2, none⟩)
  | 11, [v], γ, w' => v = .slice (some ⟨ga, 0, none⟩) n cr
  | 12, [v], γ, w' => v = .int .i64 (n : Int)
  | 13, [v], γ, w' => v = .int .i64 (K : Int)
  | 14, [v], γ, w' => v = .int .i64 (K : Int)
  | _, _, _, _ => True
theorem gOdE_st (w w2 : World) (q1 q2 : Int) (Ac : Option Addr) (cc m : Nat) (ga cr n K J g e0 : Nat) : ∀ i l' γ v γ' v', SR (OdEInv w w2 q1 q2 Ac cc m ga cr n K J g e0) γ v γ' v' → gOdE w w2 q1 q2 Ac cc m ga cr n K J g e0 i l' γ v → gOdE w w2 q1 q2 Ac cc m ga cr n K J g e0 i l' γ' v' := by
  intro i l' γ v γ' v' r h
  have hle := r.le
  unfold gOdE at h ⊢
  split at h
  all_goals first
    | exact h
    | (obtain ⟨h1, h2⟩ := h; exact ⟨h1, by omega⟩)
    | (obtain ⟨h1, h3, h4⟩ := h; exact ⟨h1, by omega, fun e => by rw [r.eq (by omega)]; exact h4 (by omega)⟩)
    | (obtain ⟨x0, h1, h3, h4⟩ := h; exact ⟨x0, h1, by omega, fun e => by rw [r.eq (by omega)]; exact h4 (by omega)⟩)
    | (obtain ⟨x0, x1, h1, h3, h4⟩ := h; exact ⟨x0, x1, h1, by omega, fun e => by rw [r.eq (by omega)]; exact h4 (by omega)⟩)
    | (obtain ⟨x0, x1, x2, h1, h3, h4⟩ := h; exact ⟨x0, x1, x2, h1, by omega, fun e => by rw [r.eq (by omega)]; exact h4 (by omega)⟩)
    | (obtain ⟨x0, x1, x2, x3, h1, h3, h4⟩ := h; exact ⟨x0, x1, x2, x3, h1, by omega, fun e => by rw [r.eq (by omega)]; exact h4 (by omega)⟩)
    | (obtain ⟨x0, x1, x2, x3, x4, h1, h3, h4⟩ := h; exact ⟨x0, x1, x2, x3, x4, h1, by omega, fun e => by rw [r.eq (by omega)]; exact h4 (by omega)⟩)
    | (obtain ⟨h3, h4⟩ := h; exact ⟨by omega, fun e => by rw [r.eq (by omega)]; exact h4 (by omega)⟩)
def dOdE : Nat → List Nat := fun i => [i]
def stOdE : List Nat := [100, 100, 100, 100, 100, 100, 100, 100, 100, 100, 100, 100, 100, 100, 100]
def OdFInv (w w2 : World) (q1 q2 : Int) (Ac : Option Addr) (cc m : Nat) (ga cr n K J g e0 : Nat) (γ : Nat) (w' : World) : Prop := γ ≤ 3 ∧ (γ ≤ 2 → Ext w2 w')
def gOdF (w w2 : World) (q1 q2 : Int) (Ac : Option Addr) (cc m : Nat) (ga cr n K J g e0 : Nat) : Nat → List Value → Nat → World → Prop
  | 0, [v], γ, w' => v = .pointer (some ⟨w.heap.size, 2, none⟩)
  | 1, [v], γ, w' => v = .slice (some ⟨ga, 0, none⟩) n cr
  | 2, [v], γ, w' => v = .int .i64 (K : Int)
  | 3, [v], γ, w' => v = .pointer (some ⟨ga, K, none⟩)
  | 4, [v], γ, w' => v = .slice (some ⟨g, 0, none⟩) m e0
  | 5, [v], γ, w' => v = .pointer (some ⟨w.heap.size + 1, 2, none⟩)
  | 6, [v], γ, w' => v = .int .i64 q2
  | 7, [v], γ, w' => v = .pointer (some ⟨w.heap.size, 1, none⟩)
  | 8, [v], γ, w' => v = .slice Ac m cc
  | 9, [v], γ, w' => v = .int .i64 (m : Int)
  | 10, [v], γ, w' => v = .int .i64 (q2.tmod (m : Int))
  | 11, [v], γ, w' => v = .pointer (some ⟨w.heap.size, 1, none⟩)
  | 12, [v], γ, w' => v = .slice Ac m cc
  | 13, [v], γ, w' => v = .int .i64 (m : Int)
  | 14, [v], γ, w' => v = .int .i64 (q2.tmod (m : Int) + (m : Int))
  | 15, [v], γ, w' => v = .pointer (some ⟨w.heap.size, 1, none⟩)
  | 16, [v], γ, w' => v = .slice Ac m cc
  | 17, [v], γ, w' => v = .int .i64 (m : Int)
  | 18, [v], γ, w' => v = .int .i64 (J : Int)
  | 19, [v], γ, w' => v = .pointer (some ⟨w.heap.size + 1, 1, none⟩)
  | 20, [v], γ, w' => v = .int .i64 q1
  | 21, [v], γ, w' => v = .pointer (some ⟨w.heap.size + 1, 2, none⟩)
  | 22, [v], γ, w' => v = .int .i64 q2
  | 23, [v], γ, w' => ∃ gg : Nat, v = .slice (some ⟨gg, 0, none⟩) 2 2 ∧ 1 ≤ γ ∧ (γ = 1 → Blk w' gg 3 #[.int .i64 q1, .int .i64 q2])
  | 24, [v], γ, w' => ∃ (x : Val) (A1 : Option Addr) (c1 : Nat) (B1 : Option Addr) (e1 : Nat), v = (.agg #[.int .i64 x.kind, .string x.s, .int .i64 x.dn, .int .i64 x.ds, .int .i64 x.n, .slice A1 x.cols.length c1, .slice B1 x.rows.length e1]) ∧ 2 ≤ γ ∧ (γ = 2 → (x.cols.length ≤ c1 ∧ x.rows.length ≤ e1) ∧ RV w' (fun b => w2.heap.size ≤ b) 1 x A1 B1)
  | 25, [v], γ, w' => v = .pointer (some ⟨g, J * 7, none⟩)
  | 26, [v], γ, w' => 3 ≤ γ ∧ (γ = 3 → ∃ (w3 : World) (x : Val) (A1 : Option Addr) (c1 : Nat) (B1 : Option Addr) (e1 : Nat), Ext w2 w3 ∧ (x.cols.length ≤ c1 ∧ x.rows.length ≤ e1) ∧ RV w3 (fun b => w2.heap.size ≤ b) 1 x A1 B1 ∧ w' = ((((((w3.setCell ⟨g, J * 7, none⟩ (.int .i64 x.kind)).setCell ⟨g, J * 7 + 1, none⟩ (.string x.s)).setCell ⟨g, J * 7 + 2, none⟩ (.int .i64 x.dn)).setCell ⟨g, J * 7 + 3, none⟩ (.int .i64 x.ds)).setCell ⟨g, J * 7 + 4, none⟩ (.int .i64 x.n)).setCell ⟨g, J * 7 + 5, none⟩ (.slice A1 x.cols.length c1)).setCell ⟨g, J * 7 + 6, none⟩ (.slice B1 x.rows.length e1))
  | _, _, _, _ => True
theorem gOdF_st (w w2 : World) (q1 q2 : Int) (Ac : Option Addr) (cc m : Nat) (ga cr n K J g e0 : Nat) : ∀ i l' γ v γ' v', SR (OdFInv w w2 q1 q2 Ac cc m ga cr n K J g e0) γ v γ' v' → gOdF w w2 q1 q2 Ac cc m ga cr n K J g e0 i l' γ v → gOdF w w2 q1 q2 Ac cc m ga cr n K J g e0 i l' γ' v' := by
  intro i l' γ v γ' v' r h
  have hle := r.le
  unfold gOdF at h ⊢
  split at h
  all_goals first
    | exact h
    | (obtain ⟨h1, h2⟩ := h; exact ⟨h1, by omega⟩)
    | (obtain ⟨h1, h3, h4⟩ := h; exact ⟨h1, by omega, fun e => by rw [r.eq (by omega)]; exact h4 (by omega)⟩)
    | (obtain ⟨x0, h1, h3, h4⟩ := h; exact ⟨x0, h1, by omega, fun e => by rw [r.eq (by omega)]; exact h4 (by omega)⟩)
    | (obtain ⟨x0, x1, h1, h3, h4⟩ := h; exact ⟨x0, x1, h1, by omega, fun e => by rw [r.eq (by omega)]; exact h4 (by omega)⟩)
    | (obtain ⟨x0, x1, x2, h1, h3, h4⟩ := h; exact ⟨x0, x1, x2, h1, by omega, fun e => by rw [r.eq (by omega)]; exact h4 (by omega)⟩)
    | (obtain ⟨x0, x1, x2, x3, h1, h3, h4⟩ := h; exact ⟨x0, x1, x2, x3, h1, by omega, fun e => by rw [r.eq (by omega)]; exact h4 (by omega)⟩)
    | (obtain ⟨x0, x1, x2, x3, x4, h1, h3, h4⟩ := h; exact ⟨x0, x1, x2, x3, x4, h1, by omega, fun e => by rw [r.eq (by omega)]; exact h4 (by omega)⟩)
    | (obtain ⟨h3, h4⟩ := h; exact ⟨by omega, fun e => by rw [r.eq (by omega)]; exact h4 (by omega)⟩)
def dOdF : Nat → List Nat := fun i => [i]
def stOdF : List Nat := [100, 3, 100, 100, 3, 100, 3, 100, 3, 100, 100, 100, 3, 100, 100, 100, 3, 100, 100, 100, 3, 100, 3, 1, 2, 100, 3]

theorem Own.blk0 {w : World} {base e sz n c : Nat} {A : Option Addr} {xs : List Value} (h : Own w base e sz A n c xs) (hn : 0 < n) : ∃ (g : Nat) (cur : Array Value), A = some ⟨g, 0, none⟩ ∧ Blk w g e cur ∧ base ≤ g := by
  rcases h.2 with ⟨_, h0⟩ | ⟨g, cap, cur, hv, hb, hh, _⟩
  · omega
  · injection hv with hv
    exact ⟨g, cur, hv, hh, hb⟩
theorem odd3_fin {w w2 w3 w' : World} {q0 q1 q2 : Int} {nm : ByteArray} {Ac Ar : Option Addr} {cc cr : Nat} {cols : List ByteArray} {rows : List (List Val)} {K J g e0 : Nat} {X : Nat → Prop} {x : Val} {A1 B1 : Option Addr} {c1 e1 : Nat} (h : OD w q0 q1 q2 nm Ac cc cols Ar cr rows w2) (hx : Ext w2 w3) (hcp : x.cols.length ≤ c1 ∧ x.rows.length ≤ e1) (hxv : RV w3 (fun b => w2.heap.size ≤ b) 1 x A1 B1) (hw : w' = ((((((w3.setCell ⟨g, J * 7, none⟩ (.int .i64 x.kind)).setCell ⟨g, J * 7 + 1, none⟩ (.string x.s)).setCell ⟨g, J * 7 + 2, none⟩ (.int .i64 x.dn)).setCell ⟨g, J * 7 + 3, none⟩ (.int .i64 x.ds)).setCell ⟨g, J * 7 + 4, none⟩ (.int .i64 x.n)).setCell ⟨g, J * 7 + 5, none⟩ (.slice A1 x.cols.length c1)).setCell ⟨g, J * 7 + 6, none⟩ (.slice B1 x.rows.length e1)) (h1 : nm.size ≤ 4294967296) (h2 : cols.length ≤ 4294967296)
    (hK : K < rows.length) (hJ : J < rows[K].length) (hrl : rows[K].length ≤ 4294967296) (hv : OwnVs w2 (w.heap.size + 3) X 2 (some ⟨g, 0, none⟩) e0 rows[K]) (hX : ∀ b, X b → w.heap.size + 3 ≤ b ∧ ob Ar ≠ some b) (hsc : ob Ac ≠ some g)
    (hcl : ∀ (w' : World) (r' : List Val), Kept (fun b => ob (some ⟨g, 0, none⟩) ≠ some b) w2 w' → r'.length = rows[K].length → Row w' (fun b => w.heap.size + 3 ≤ b) 2 (some ⟨g, 0, none⟩) r' → Rows w' (fun b => w.heap.size + 3 ≤ b) 2 Ar (rows.set K r')) : ∃ (t : Look) (A : Option Addr) (c : Nat) (B : Option Addr) (e : Nat), OF w t A c B e w' := by
  have hg := hv.blk (k := g) rfl
  have hw2 : w.heap.size + 3 ≤ w2.heap.size := by have := h.res.lt; omega
  obtain ⟨hr, hk⟩ := (hv.ext hx).store7 (T := fun b => w.heap.size + 3 ≤ b) hJ hrl (x := x) ⟨by decide, hcp⟩ (hxv.mono fun b _ hb => ⟨by omega, by omega⟩) hg.1 (fun b hb => (hX b hb).1) hw
  have hkk : Kept (fun b => b ≠ g) w2 w' := (hx.kept _).trans hk
  refine ⟨⟨nm, cols, rows.set K (rows[K].set J x)⟩, Ac, cc, Ar, cr, OF.far h (hkk.mono fun b _ hb => by omega) ?_ (by simp) h1 ?_ (hcl w' _ (hkk.mono fun b _ hb e => hb (by rw [e]; rfl)) (by simp) hr)⟩
  · rw [hw]
    iterate 7 refine Ext.set2 ?_ (by omega) _
    exact h.ext.trans hx
  · have := (h.cols.strs (T := fun b => w.heap.size + 3 ≤ b ∧ b ≠ g) h2 fun b hb => ⟨(h.cols.1.blk hb).1, fun e => hsc (by rw [← e]; exact hb)⟩).keep (hkk.mono fun b _ hb => hb.2)
    exact this.mono fun b _ hb => hb.1

set_option maxRecDepth 100000 in
set_option maxHeartbeats 4000000 in
theorem odd_3 (t : Look) (A B : Option Addr) (c e : Nat) (q0 q1 q2 : Int) (w : World) (S : Nat → Prop) (h : RL w S 2 t A B) (ht : OkT t) (hm : (q0.tmod 8 + 8) % 8 = 3) : Calls Tryz.prog 11 #[(.agg #[.string t.name, .slice A t.cols.length c, .slice B t.rows.length e]), .agg #[.int .i64 q0, .int .i64 q1, .int .i64 q2]] w (RetOd w) := by
  have H := Lib.hid h
  obtain ⟨ht1, ht2, ht3, ht4⟩ := ht
  have HT4 := Lib.hid ht4
  obtain ⟨hb1, hb2⟩ := next_bd q0 8 (by omega)
  have hnm := h.1
  clear h ht4
  obtain ⟨W0, hW0⟩ : ∃ W0, W0 = ((w.alloc (.cells #[.string t.name, .slice A t.cols.length c, .slice B t.rows.length e] 28)).alloc (.cells #[.int .i64 q0, .int .i64 q1, .int .i64 q2] 23)).alloc (.cells #[.string ⟨#[]⟩, .slice none 0 0, .slice none 0 0] 28) := ⟨_, rfl⟩
  have HW0 := Lib.hid hW0
  have hx0 : Ext w W0 := by rw [hW0]; exact (((Ext.refl w).alloc _).alloc _).alloc _
  have b0 : Blk W0 w.heap.size 28 #[.string t.name, .slice A t.cols.length c, .slice B t.rows.length e] := by rw [hW0]; exact ((Blk.new _ _ _).keep (Kept.alloc _ _ _)).keep (Kept.alloc _ _ _)
  have b1 : Blk W0 (w.heap.size + 1) 23 #[.int .i64 q0, .int .i64 q1, .int .i64 q2] := by
    rw [hW0]
    have := (Blk.new (w.alloc (.cells #[.string t.name, .slice A t.cols.length c, .slice B t.rows.length e] 28)) 23 #[.int .i64 q0, .int .i64 q1, .int .i64 q2]).keep (Kept.alloc _ _ (.cells #[.string ⟨#[]⟩, .slice none 0 0, .slice none 0 0] 28))
    simpa using this
  have b2 : Blk W0 (w.heap.size + 1 + 1) 28 #[.string ⟨#[]⟩, .slice none 0 0, .slice none 0 0] := by
    rw [hW0]
    have := Blk.new ((w.alloc (.cells #[.string t.name, .slice A t.cols.length c, .slice B t.rows.length e] 28)).alloc (.cells #[.int .i64 q0, .int .i64 q1, .int .i64 q2] 23)) 28 #[.string ⟨#[]⟩, .slice none 0 0, .slice none 0 0]
    simpa using this
  have hs0 : W0.heap.size = w.heap.size + 3 := by rw [hW0]; simp
  have HX0 := Lib.hid hx0
  have HB0 := Lib.hid b0
  have HB1 := Lib.hid b1
  have HB2 := Lib.hid b2
  have HS0 := Lib.hid hs0
  clear hW0 hx0 b0 b1 b2 hs0
  go_enter Tryz.func11, Tryz.ntmps11
  go_wp2_with fail
  rw [← HW0.out]
  refine (r09_Copy 2 t A B c e W0 S (H.out.keep (HX0.out.kept S))).mono ?_
  rintro e1 w1 ⟨Ac, cc, Ar, cr, rfl, hoc, hor, hsep, hx1⟩
  rw [HS0.out] at hoc hor
  have HM1 := Lib.hid (show OD w q0 q1 q2 t.name Ac cc t.cols Ar cr t.rows (((w1.setCell ⟨w.heap.size, 0, none⟩ (.string t.name)).setCell ⟨w.heap.size, 1, none⟩ (.slice Ac t.cols.length cc)).setCell ⟨w.heap.size, 2, none⟩ (.slice Ar t.rows.length cr)) by
    have ho := (((Only.refl w.heap.size w1).set 0 (.string t.name)).set 1 (.slice Ac t.cols.length cc)).set 2 (.slice Ar t.rows.length cr)
    refine ⟨(HX0.out.trans hx1).only ho (by omega), ?_, (HB1.out.keep (hx1.kept _)).keep (ho.kept fun b _ e => by omega), (HB2.out.keep (hx1.kept _)).keep (ho.kept fun b _ e => by omega), ⟨ho.own hoc.1 (by omega), hoc.2⟩, hor.keep (ho.kept fun b _ e => by omega) (fun b hb hb' => hsep b hb' hb), hsep⟩
    have := (((HB0.out.keep (hx1.kept _)).set 0 (.string t.name)).set 1 (.slice Ac t.cols.length cc)).set 2 (.slice Ar t.rows.length cr)
    simpa using this)
  have q5 := HB0.out.keep (hx1.kept _)
  have k50 := q5.cell (i := 0) rfl
  have k51 := q5.cell (i := 1) rfl
  have k52 := q5.cell (i := 2) rfl
  have kf := q5.frozen
  have kz := q5.lt
  clear hoc hor hsep hx1 q5 HX0 HB0 HB1 HB2 HS0 HW0
  go_upto_region 2 with fail
  obtain ⟨w2, hw2⟩ : ∃ w2, w2 = (((w1.setCell ⟨w.heap.size, 0, none⟩ (.string t.name)).setCell ⟨w.heap.size, 1, none⟩ (.slice Ac t.cols.length cc)).setCell ⟨w.heap.size, 2, none⟩ (.slice Ar t.rows.length cr)) := ⟨_, rfl⟩
  rw [← hw2] at HM1
  rw [← hw2]
  clear hw2 k50 k51 k52 kf kz
  obtain ⟨cols, hcols⟩ : ∃ cols, cols = t.cols := ⟨_, rfl⟩
  obtain ⟨rows, hrows⟩ : ∃ rows, rows = t.rows := ⟨_, rfl⟩
  obtain ⟨nm, hnmE⟩ : ∃ nm, nm = t.name := ⟨_, rfl⟩
  rw [← hcols, ← hrows, ← hnmE] at HM1
  rw [← hcols] at ht1 ht2 HT4
  rw [← hrows] at ht3 HT4
  rw [← hnmE] at hnm
  clear hcols hrows hnmE
  have HM := HM1
  have d0 := HM1.out.box.cell (i := 0) rfl
  have d1 := HM1.out.box.cell (i := 1) rfl
  have d2 := HM1.out.box.cell (i := 2) rfl
  have df := HM1.out.box.frozen
  have dz := HM1.out.box.lt
  have g0 := HM1.out.qb.cell (i := 0) rfl
  have g1 := HM1.out.qb.cell (i := 1) rfl
  have g2 := HM1.out.qb.cell (i := 2) rfl
  have gz := HM1.out.qb.lt
  have HR4 := Lib.hid (show ∀ r ∈ rows, r.length ≤ 4294967296 from fun r hr => by rw [HT4.out r hr]; omega)
  by_cases h0 : 0 < rows.length
  · have hn0 : (1 : Int) ≤ (rows.length : Int) := by omega
    have hm0 : (1 : Int) ≤ (cols.length : Int) := by omega
    obtain ⟨hK1, hK2⟩ := next_r q1 (rows.length : Int) hn0
    obtain ⟨hJ1, hJ2⟩ := next_r q2 (cols.length : Int) hm0
    obtain ⟨hK3, hK4⟩ := next_bd q1 (rows.length : Int) hn0
    obtain ⟨hJ3, hJ4⟩ := next_bd q2 (cols.length : Int) hm0
    obtain ⟨K, hKE⟩ : ∃ K : Nat, (q1.tmod (rows.length : Int) + (rows.length : Int)).tmod (rows.length : Int) = (K : Int) := ⟨_, (Int.toNat_of_nonneg hK1).symm⟩
    obtain ⟨J, hJE⟩ : ∃ J : Nat, (q2.tmod (cols.length : Int) + (cols.length : Int)).tmod (cols.length : Int) = (J : Int) := ⟨_, (Int.toNat_of_nonneg hJ1).symm⟩
    rw [hKE] at hK2
    rw [hJE] at hJ2
    have hKn : K < rows.length := by omega
    have hJm : J < cols.length := by omega
    obtain ⟨hs, B1, e0, X, ho1, hk1, hv1, hX1, hne1, hcl⟩ := HM.out.rows.at_ hKn (by omega) HR4.out
    have hrl : rows[K].length = cols.length := HT4.out _ (List.getElem_mem hKn)
    obtain ⟨ga, cura, hAr, hBa, -⟩ := ho1.blk0 (by omega)
    obtain ⟨g, curg, hB1, hBg, -⟩ := (show ∃ xs, Own w2 (w.heap.size + 3) 33 7 B1 rows[K].length e0 xs by obtain ⟨xs, ho, _⟩ := hv1; exact ⟨xs, ho⟩).elim fun xs ho => ho.blk0 (by omega)
    subst hB1
    have HHD := Lib.hid (show w2.cell? ⟨ga, K, none⟩ = some (.slice (some ⟨g, 0, none⟩) cols.length e0) by
      obtain ⟨b, o, h1, h2, h3⟩ := ho1.rd.at_ hk1
      rw [hAr] at h1
      injection h1 with h1
      injection h1 with h1 h1'
      rw [← h1, ← h1', Nat.zero_add, hrl] at h3
      exact h3)
    have HST := Lib.hid (show ∀ w', Ext w2 w' → (∃ x0 x1 x2 x3 x4 x5 x6, w'.cell? ⟨g, J * 7, none⟩ = some x0 ∧ w'.cell? ⟨g, J * 7 + 1, none⟩ = some x1 ∧ w'.cell? ⟨g, J * 7 + 2, none⟩ = some x2 ∧ w'.cell? ⟨g, J * 7 + 3, none⟩ = some x3 ∧ w'.cell? ⟨g, J * 7 + 4, none⟩ = some x4 ∧ w'.cell? ⟨g, J * 7 + 5, none⟩ = some x5 ∧ w'.cell? ⟨g, J * 7 + 6, none⟩ = some x6) ∧ (∀ i, w'.frozen? ⟨g, i, none⟩ = false) ∧ g < w'.heap.size by
      intro w' hx
      have hb := hBg.keep (hx.kept _)
      have hrow := (hv1.row (T := fun _ => True) (by omega) (fun _ _ => trivial) (fun _ _ => trivial)).keep (hx.kept _)
      obtain ⟨b, o, A5, c5, B5, e5, hb5, z5, ⟨p0, p1, p2, p3, p4, p5, p6⟩, -⟩ := hrow.at_ (k := J) (by omega)
      injection hb5 with hb5
      injection hb5 with hb5 hb6
      subst hb5
      subst hb6
      simp only [Nat.zero_add] at p0 p1 p2 p3 p4 p5 p6
      exact ⟨⟨_, _, _, _, _, _, _, p0, p1, p2, p3, p4, p5, p6⟩, hb.frozen, hb.lt⟩)
    have HSC := Lib.hid (show ob Ac ≠ some g from fun hc => by
      obtain ⟨g', cur', hv', hb', -⟩ := HM.out.cols.1.blk0 (by omega)
      rw [hv'] at hc
      injection hc with hc
      subst hc
      unfold Blk at hBg hb'
      rw [hb'] at hBg
      injection hBg with hBg
      injection hBg with _ hBg
      exact absurd hBg (by decide))
    have HV1 := Lib.hid hv1
    have HX1 := Lib.hid hX1
    have HCL := Lib.hid hcl
    have HRL := Lib.hid hrl
    have D2 := Lib.hid (show w2.cell? ⟨w.heap.size, 2, none⟩ = some (.slice (some ⟨ga, 0, none⟩) rows.length cr) by rw [← hAr]; exact d2)
    have D1 := Lib.hid d1
    have G1 := Lib.hid g1
    have G2 := Lib.hid g2
    have HKW := Lib.hid (IntWalk.i64_in (q1.tmod (rows.length : Int) + (rows.length : Int)) (by omega))
    have HJW := Lib.hid (IntWalk.i64_in (q2.tmod (cols.length : Int) + (cols.length : Int)) (by omega))
    have HKN := Lib.hid (show 0 ≤ q1.tmod (rows.length : Int) + (rows.length : Int) by omega)
    have HJN := Lib.hid (show 0 ≤ q2.tmod (cols.length : Int) + (cols.length : Int) by omega)
    have HKE := Lib.hid hKE
    have HJE := Lib.hid hJE
    have HAR := Lib.hid hAr
    clear ho1 hk1 hv1 hX1 hne1 hcl hrl hBa hBg hK1 hJ1 hK3 hK4 hJ3 hJ4 hKE hJE hAr
    go_upto_region 11 with fail
    obtain ⟨n, hn⟩ : ∃ n, n = rows.length := ⟨_, rfl⟩
    obtain ⟨m, hm'⟩ : ∃ m, m = cols.length := ⟨_, rfl⟩
    have HNN := Lib.hid hn
    have HMM := Lib.hid hm'
    rw [← hn] at D2 HKW HKN HKE h0 hn0 hK2
    rw [← hm'] at D1 HHD HJW HJN HJE hm0 hJ2
    clear hn hm'
    have hKn' : K < n := by omega
    have hJm' : J < m := by omega
    refine wp_region_lin_lit (by kernel_rfl) dOdE (by kernel_rfl) (SR (OdEInv w w2 q1 q2 Ac cc m ga cr n K J g e0)) (SR.refl _) (SR.trans _) (SN stOdE) (gOdE w w2 q1 q2 Ac cc m ga cr n K J g e0) (gOdE_st _ _ _ _ _ _ _ _ _ _ _ _ _ _) 0 (SN.zero (by decide)) ⟨?_, ?_, ?_, ?_, ?_, ?_, ?_, ?_, ?_, ?_, ?_, ?_, ?_, ?_, ?_, trivial⟩ ?_
    · refine LinStep.yes fun vals γ w' ρ hR hN hp hρ hc hf hg => ⟨rfl, ?_⟩
      have hi := hR.inv ⟨by omega, (Ext.refl w2).drew⟩
      have e3 : ρ (.tmp 3) = .pointer (some ⟨w.heap.size + 1, 0, none⟩) := hρ 3
      clear hR hN hp hρ hi
      go_light
      go_simp
      exact ⟨γ, SR.refl _ _ _, fun _ _ _ h => h, rfl⟩
    · refine LinStep.yes fun vals γ w' ρ hR hN hp hρ hc hf hg => ⟨rfl, ?_⟩
      have hi := hR.inv ⟨by omega, (Ext.refl w2).drew⟩
      have e49 : ρ (.tmp 49) = _ := (hρ 49).trans (hp 0 (by decide))
      have k1 := hi.2.cell G1.out
      clear hR hN hp hρ hi
      go_light
      go_simp
      exact ⟨γ, SR.refl _ _ _, fun _ _ _ h => h, rfl⟩
    · refine LinStep.yes fun vals γ w' ρ hR hN hp hρ hc hf hg => ⟨rfl, ?_⟩
      have hi := hR.inv ⟨by omega, (Ext.refl w2).drew⟩
      have e2 : ρ (.tmp 2) = .pointer (some ⟨w.heap.size, 0, none⟩) := hρ 2
      clear hR hN hp hρ hi
      go_light
      go_simp
      exact ⟨γ, SR.refl _ _ _, fun _ _ _ h => h, rfl⟩
    · refine LinStep.yes fun vals γ w' ρ hR hN hp hρ hc hf hg => ⟨rfl, ?_⟩
      have hi := hR.inv ⟨by omega, (Ext.refl w2).drew⟩
      have e51 : ρ (.tmp 51) = _ := (hρ 51).trans (hp 2 (by decide))
      have k1 := hi.2.cell D2.out
      clear hR hN hp hρ hi
      go_light
      go_simp
      exact ⟨γ, SR.refl _ _ _, fun _ _ _ h => h, rfl⟩
    · refine LinStep.yes fun vals γ w' ρ hR hN hp hρ hc hf hg => ⟨rfl, ?_⟩
      have hi := hR.inv ⟨by omega, (Ext.refl w2).drew⟩
      have e52 : ρ (.tmp 52) = _ := (hρ 52).trans (hp 3 (by decide))
      clear hR hN hp hρ hi
      go_light
      go_simp
      exact ⟨γ, SR.refl _ _ _, fun _ _ _ h => h, rfl⟩
    · refine LinStep.yes fun vals γ w' ρ hR hN hp hρ hc hf hg => ⟨rfl, ?_⟩
      have hi := hR.inv ⟨by omega, (Ext.refl w2).drew⟩
      have e50 : ρ (.tmp 50) = _ := (hρ 50).trans (hp 1 (by decide))
      have e53 : ρ (.tmp 53) = _ := (hρ 53).trans (hp 4 (by decide))
      have i1 : ¬ n = 0 := by omega
      clear hR hN hp hρ hi
      go_light
      go_simp
      exact ⟨γ, SR.refl _ _ _, fun _ _ _ h => h, rfl⟩
    · refine LinStep.yes fun vals γ w' ρ hR hN hp hρ hc hf hg => ⟨rfl, ?_⟩
      have hi := hR.inv ⟨by omega, (Ext.refl w2).drew⟩
      have e2 : ρ (.tmp 2) = .pointer (some ⟨w.heap.size, 0, none⟩) := hρ 2
      clear hR hN hp hρ hi
      go_light
      go_simp
      exact ⟨γ, SR.refl _ _ _, fun _ _ _ h => h, rfl⟩
    · refine LinStep.yes fun vals γ w' ρ hR hN hp hρ hc hf hg => ⟨rfl, ?_⟩
      have hi := hR.inv ⟨by omega, (Ext.refl w2).drew⟩
      have e55 : ρ (.tmp 55) = _ := (hρ 55).trans (hp 6 (by decide))
      have k1 := hi.2.cell D2.out
      clear hR hN hp hρ hi
      go_light
      go_simp
      exact ⟨γ, SR.refl _ _ _, fun _ _ _ h => h, rfl⟩
    · refine LinStep.yes fun vals γ w' ρ hR hN hp hρ hc hf hg => ⟨rfl, ?_⟩
      have hi := hR.inv ⟨by omega, (Ext.refl w2).drew⟩
      have e56 : ρ (.tmp 56) = _ := (hρ 56).trans (hp 7 (by decide))
      clear hR hN hp hρ hi
      go_light
      go_simp
      exact ⟨γ, SR.refl _ _ _, fun _ _ _ h => h, rfl⟩
    · refine LinStep.yes fun vals γ w' ρ hR hN hp hρ hc hf hg => ⟨rfl, ?_⟩
      have hi := hR.inv ⟨by omega, (Ext.refl w2).drew⟩
      have e54 : ρ (.tmp 54) = _ := (hρ 54).trans (hp 5 (by decide))
      have e57 : ρ (.tmp 57) = _ := (hρ 57).trans (hp 8 (by decide))
      have i2 := HKW.out
      clear hR hN hp hρ hi
      go_light
      go_simp
      exact ⟨γ, SR.refl _ _ _, fun _ _ _ h => h, rfl⟩
    · refine LinStep.yes fun vals γ w' ρ hR hN hp hρ hc hf hg => ⟨rfl, ?_⟩
      have hi := hR.inv ⟨by omega, (Ext.refl w2).drew⟩
      have e2 : ρ (.tmp 2) = .pointer (some ⟨w.heap.size, 0, none⟩) := hρ 2
      clear hR hN hp hρ hi
      go_light
      go_simp
      exact ⟨γ, SR.refl _ _ _, fun _ _ _ h => h, rfl⟩
    · refine LinStep.yes fun vals γ w' ρ hR hN hp hρ hc hf hg => ⟨rfl, ?_⟩
      have hi := hR.inv ⟨by omega, (Ext.refl w2).drew⟩
      have e59 : ρ (.tmp 59) = _ := (hρ 59).trans (hp 10 (by decide))
      have k1 := hi.2.cell D2.out
      clear hR hN hp hρ hi
      go_light
      go_simp
      exact ⟨γ, SR.refl _ _ _, fun _ _ _ h => h, rfl⟩
    · refine LinStep.yes fun vals γ w' ρ hR hN hp hρ hc hf hg => ⟨rfl, ?_⟩
      have hi := hR.inv ⟨by omega, (Ext.refl w2).drew⟩
      have e60 : ρ (.tmp 60) = _ := (hρ 60).trans (hp 11 (by decide))
      clear hR hN hp hρ hi
      go_light
      go_simp
      exact ⟨γ, SR.refl _ _ _, fun _ _ _ h => h, rfl⟩
    · refine LinStep.yes fun vals γ w' ρ hR hN hp hρ hc hf hg => ⟨rfl, ?_⟩
      have hi := hR.inv ⟨by omega, (Ext.refl w2).drew⟩
      have e58 : ρ (.tmp 58) = _ := (hρ 58).trans (hp 9 (by decide))
      have e61 : ρ (.tmp 61) = _ := (hρ 61).trans (hp 12 (by decide))
      have i1 : ¬ n = 0 := by omega
      have i2 := HKE.out
      have i3 := HKN.out
      clear hR hN hp hρ hi
      go_light
      go_simp
      exact ⟨γ, SR.refl _ _ _, fun _ _ _ h => h, rfl⟩
    · refine LinStep.yes fun vals γ w' ρ hR hN hp hρ hc hf hg => ⟨rfl, ?_⟩
      have hi := hR.inv ⟨by omega, (Ext.refl w2).drew⟩
      have e62 : ρ (.tmp 62) = _ := (hρ 62).trans (hp 13 (by decide))
      clear hR hN hp hρ hi
      go_light
      go_simp
      exact ⟨γ, SR.refl _ _ _, fun _ _ _ h => h, rfl⟩
    · intro vals γ w' hR hG
      have hi := hR.inv ⟨by omega, (Ext.refl w2).drew⟩
      have h14 : vals 14 = .int .i64 (K : Int) := hG 14 (by decide)
      have HE2 := Lib.hid hi.2
      clear hR hG hi
      simp only [lexFrame, Act.put, List.setIfInBounds_toArray, List.set_cons_succ, List.set_cons_zero, Nat.zero_add, Nat.reduceAdd, h14]
      clear h14
      generalize vals 0 = u0, vals 1 = u1, vals 2 = u2, vals 3 = u3, vals 4 = u4, vals 5 = u5, vals 6 = u6, vals 7 = u7, vals 8 = u8, vals 9 = u9, vals 10 = u10, vals 11 = u11, vals 12 = u12, vals 13 = u13
      go_upto_region 12 with fail
      refine wp_region_lin_lit (by kernel_rfl) dOdF (by kernel_rfl) (SR (OdFInv w w2 q1 q2 Ac cc m ga cr n K J g e0)) (SR.refl _) (SR.trans _) (SN stOdF) (gOdF w w2 q1 q2 Ac cc m ga cr n K J g e0) (gOdF_st _ _ _ _ _ _ _ _ _ _ _ _ _ _) 0 (SN.zero (by decide)) ⟨?_, ?_, ?_, ?_, ?_, ?_, ?_, ?_, ?_, ?_, ?_, ?_, ?_, ?_, ?_, ?_, ?_, ?_, ?_, ?_, ?_, ?_, ?_, ?_, ?_, ?_, ?_, trivial⟩ ?_
      · refine LinStep.yes fun vals γ w' ρ hR hN hp hρ hc hf hg => ⟨rfl, ?_⟩
        have hi := hR.inv ⟨by omega, fun _ => HE2.out.drew⟩
        have e2 : ρ (.tmp 2) = .pointer (some ⟨w.heap.size, 0, none⟩) := hρ 2
        clear hR hN hp hρ hi
        go_light
        go_simp
        exact ⟨γ, SR.refl _ _ _, fun _ _ _ h => h, rfl⟩
      · refine LinStep.yes fun vals γ w' ρ hR hN hp hρ hc hf hg => ⟨rfl, ?_⟩
        have hi := hR.inv ⟨by omega, fun _ => HE2.out.drew⟩
        have e63 : ρ (.tmp 63) = _ := (hρ 63).trans (hp 0 (by decide))
        have k1 := (hi.2 (by have h : γ < 3 := hN; omega)).cell D2.out
        clear hR hN hp hρ hi
        go_light
        go_simp
        exact ⟨γ, SR.refl _ _ _, fun _ _ _ h => h, rfl⟩
      · refine LinStep.yes fun vals γ w' ρ hR hN hp hρ hc hf hg => ⟨rfl, ?_⟩
        have hi := hR.inv ⟨by omega, fun _ => HE2.out.drew⟩
        have e5 : ρ (.tmp 5) = .int .i64 (K : Int) := hρ 5
        clear hR hN hp hρ hi
        go_light
        go_simp
        exact ⟨γ, SR.refl _ _ _, fun _ _ _ h => h, rfl⟩
      · refine LinStep.yes fun vals γ w' ρ hR hN hp hρ hc hf hg => ⟨rfl, ?_⟩
        have hi := hR.inv ⟨by omega, fun _ => HE2.out.drew⟩
        have e64 : ρ (.tmp 64) = _ := (hρ 64).trans (hp 1 (by decide))
        have e65 : ρ (.tmp 65) = _ := (hρ 65).trans (hp 2 (by decide))
        have i0 : (0 : Int) ≤ (K : Int) := by omega
        have i1 : (K : Int) < (n : Int) := by omega
        clear hR hN hp hρ hi
        go_light
        go_simp
        exact ⟨γ, SR.refl _ _ _, fun _ _ _ h => h, rfl⟩
      · refine LinStep.yes fun vals γ w' ρ hR hN hp hρ hc hf hg => ⟨rfl, ?_⟩
        have hi := hR.inv ⟨by omega, fun _ => HE2.out.drew⟩
        have e66 : ρ (.tmp 66) = _ := (hρ 66).trans (hp 3 (by decide))
        have k1 := (hi.2 (by have h : γ < 3 := hN; omega)).cell HHD.out
        clear hR hN hp hρ hi
        go_light
        go_simp
        exact ⟨γ, SR.refl _ _ _, fun _ _ _ h => h, rfl⟩
      · refine LinStep.yes fun vals γ w' ρ hR hN hp hρ hc hf hg => ⟨rfl, ?_⟩
        have hi := hR.inv ⟨by omega, fun _ => HE2.out.drew⟩
        have e3 : ρ (.tmp 3) = .pointer (some ⟨w.heap.size + 1, 0, none⟩) := hρ 3
        clear hR hN hp hρ hi
        go_light
        go_simp
        exact ⟨γ, SR.refl _ _ _, fun _ _ _ h => h, rfl⟩
      · refine LinStep.yes fun vals γ w' ρ hR hN hp hρ hc hf hg => ⟨rfl, ?_⟩
        have hi := hR.inv ⟨by omega, fun _ => HE2.out.drew⟩
        have e68 : ρ (.tmp 68) = _ := (hρ 68).trans (hp 5 (by decide))
        have k1 := (hi.2 (by have h : γ < 3 := hN; omega)).cell G2.out
        clear hR hN hp hρ hi
        go_light
        go_simp
        exact ⟨γ, SR.refl _ _ _, fun _ _ _ h => h, rfl⟩
      · refine LinStep.yes fun vals γ w' ρ hR hN hp hρ hc hf hg => ⟨rfl, ?_⟩
        have hi := hR.inv ⟨by omega, fun _ => HE2.out.drew⟩
        have e2 : ρ (.tmp 2) = .pointer (some ⟨w.heap.size, 0, none⟩) := hρ 2
        clear hR hN hp hρ hi
        go_light
        go_simp
        exact ⟨γ, SR.refl _ _ _, fun _ _ _ h => h, rfl⟩
      · refine LinStep.yes fun vals γ w' ρ hR hN hp hρ hc hf hg => ⟨rfl, ?_⟩
        have hi := hR.inv ⟨by omega, fun _ => HE2.out.drew⟩
        have e70 : ρ (.tmp 70) = _ := (hρ 70).trans (hp 7 (by decide))
        have k1 := (hi.2 (by have h : γ < 3 := hN; omega)).cell D1.out
        clear hR hN hp hρ hi
        go_light
        go_simp
        exact ⟨γ, SR.refl _ _ _, fun _ _ _ h => h, rfl⟩
      · refine LinStep.yes fun vals γ w' ρ hR hN hp hρ hc hf hg => ⟨rfl, ?_⟩
        have hi := hR.inv ⟨by omega, fun _ => HE2.out.drew⟩
        have e71 : ρ (.tmp 71) = _ := (hρ 71).trans (hp 8 (by decide))
        clear hR hN hp hρ hi
        go_light
        go_simp
        exact ⟨γ, SR.refl _ _ _, fun _ _ _ h => h, rfl⟩
      · refine LinStep.yes fun vals γ w' ρ hR hN hp hρ hc hf hg => ⟨rfl, ?_⟩
        have hi := hR.inv ⟨by omega, fun _ => HE2.out.drew⟩
        have e69 : ρ (.tmp 69) = _ := (hρ 69).trans (hp 6 (by decide))
        have e72 : ρ (.tmp 72) = _ := (hρ 72).trans (hp 9 (by decide))
        have i1 : ¬ m = 0 := by omega
        clear hR hN hp hρ hi
        go_light
        go_simp
        exact ⟨γ, SR.refl _ _ _, fun _ _ _ h => h, rfl⟩
      · refine LinStep.yes fun vals γ w' ρ hR hN hp hρ hc hf hg => ⟨rfl, ?_⟩
        have hi := hR.inv ⟨by omega, fun _ => HE2.out.drew⟩
        have e2 : ρ (.tmp 2) = .pointer (some ⟨w.heap.size, 0, none⟩) := hρ 2
        clear hR hN hp hρ hi
        go_light
        go_simp
        exact ⟨γ, SR.refl _ _ _, fun _ _ _ h => h, rfl⟩
      · refine LinStep.yes fun vals γ w' ρ hR hN hp hρ hc hf hg => ⟨rfl, ?_⟩
        have hi := hR.inv ⟨by omega, fun _ => HE2.out.drew⟩
        have e74 : ρ (.tmp 74) = _ := (hρ 74).trans (hp 11 (by decide))
        have k1 := (hi.2 (by have h : γ < 3 := hN; omega)).cell D1.out
        clear hR hN hp hρ hi
        go_light
        go_simp
        exact ⟨γ, SR.refl _ _ _, fun _ _ _ h => h, rfl⟩
      · refine LinStep.yes fun vals γ w' ρ hR hN hp hρ hc hf hg => ⟨rfl, ?_⟩
        have hi := hR.inv ⟨by omega, fun _ => HE2.out.drew⟩
        have e75 : ρ (.tmp 75) = _ := (hρ 75).trans (hp 12 (by decide))
        clear hR hN hp hρ hi
        go_light
        go_simp
        exact ⟨γ, SR.refl _ _ _, fun _ _ _ h => h, rfl⟩
      · refine LinStep.yes fun vals γ w' ρ hR hN hp hρ hc hf hg => ⟨rfl, ?_⟩
        have hi := hR.inv ⟨by omega, fun _ => HE2.out.drew⟩
        have e73 : ρ (.tmp 73) = _ := (hρ 73).trans (hp 10 (by decide))
        have e76 : ρ (.tmp 76) = _ := (hρ 76).trans (hp 13 (by decide))
        have i2 := HJW.out
        clear hR hN hp hρ hi
        go_light
        go_simp
        exact ⟨γ, SR.refl _ _ _, fun _ _ _ h => h, rfl⟩
      · refine LinStep.yes fun vals γ w' ρ hR hN hp hρ hc hf hg => ⟨rfl, ?_⟩
        have hi := hR.inv ⟨by omega, fun _ => HE2.out.drew⟩
        have e2 : ρ (.tmp 2) = .pointer (some ⟨w.heap.size, 0, none⟩) := hρ 2
        clear hR hN hp hρ hi
        go_light
        go_simp
        exact ⟨γ, SR.refl _ _ _, fun _ _ _ h => h, rfl⟩
      · refine LinStep.yes fun vals γ w' ρ hR hN hp hρ hc hf hg => ⟨rfl, ?_⟩
        have hi := hR.inv ⟨by omega, fun _ => HE2.out.drew⟩
        have e78 : ρ (.tmp 78) = _ := (hρ 78).trans (hp 15 (by decide))
        have k1 := (hi.2 (by have h : γ < 3 := hN; omega)).cell D1.out
        clear hR hN hp hρ hi
        go_light
        go_simp
        exact ⟨γ, SR.refl _ _ _, fun _ _ _ h => h, rfl⟩
      · refine LinStep.yes fun vals γ w' ρ hR hN hp hρ hc hf hg => ⟨rfl, ?_⟩
        have hi := hR.inv ⟨by omega, fun _ => HE2.out.drew⟩
        have e79 : ρ (.tmp 79) = _ := (hρ 79).trans (hp 16 (by decide))
        clear hR hN hp hρ hi
        go_light
        go_simp
        exact ⟨γ, SR.refl _ _ _, fun _ _ _ h => h, rfl⟩
      · refine LinStep.yes fun vals γ w' ρ hR hN hp hρ hc hf hg => ⟨rfl, ?_⟩
        have hi := hR.inv ⟨by omega, fun _ => HE2.out.drew⟩
        have e77 : ρ (.tmp 77) = _ := (hρ 77).trans (hp 14 (by decide))
        have e80 : ρ (.tmp 80) = _ := (hρ 80).trans (hp 17 (by decide))
        have i1 : ¬ m = 0 := by omega
        have i2 := HJE.out
        have i3 := HJN.out
        clear hR hN hp hρ hi
        go_light
        go_simp
        exact ⟨γ, SR.refl _ _ _, fun _ _ _ h => h, rfl⟩
      · refine LinStep.yes fun vals γ w' ρ hR hN hp hρ hc hf hg => ⟨rfl, ?_⟩
        have hi := hR.inv ⟨by omega, fun _ => HE2.out.drew⟩
        have e3 : ρ (.tmp 3) = .pointer (some ⟨w.heap.size + 1, 0, none⟩) := hρ 3
        clear hR hN hp hρ hi
        go_light
        go_simp
        exact ⟨γ, SR.refl _ _ _, fun _ _ _ h => h, rfl⟩
      · refine LinStep.yes fun vals γ w' ρ hR hN hp hρ hc hf hg => ⟨rfl, ?_⟩
        have hi := hR.inv ⟨by omega, fun _ => HE2.out.drew⟩
        have e82 : ρ (.tmp 82) = _ := (hρ 82).trans (hp 19 (by decide))
        have k1 := (hi.2 (by have h : γ < 3 := hN; omega)).cell G1.out
        clear hR hN hp hρ hi
        go_light
        go_simp
        exact ⟨γ, SR.refl _ _ _, fun _ _ _ h => h, rfl⟩
      · refine LinStep.yes fun vals γ w' ρ hR hN hp hρ hc hf hg => ⟨rfl, ?_⟩
        have hi := hR.inv ⟨by omega, fun _ => HE2.out.drew⟩
        have e3 : ρ (.tmp 3) = .pointer (some ⟨w.heap.size + 1, 0, none⟩) := hρ 3
        clear hR hN hp hρ hi
        go_light
        go_simp
        exact ⟨γ, SR.refl _ _ _, fun _ _ _ h => h, rfl⟩
      · refine LinStep.yes fun vals γ w' ρ hR hN hp hρ hc hf hg => ⟨rfl, ?_⟩
        have hi := hR.inv ⟨by omega, fun _ => HE2.out.drew⟩
        have e84 : ρ (.tmp 84) = _ := (hρ 84).trans (hp 21 (by decide))
        have k1 := (hi.2 (by have h : γ < 3 := hN; omega)).cell G2.out
        clear hR hN hp hρ hi
        go_light
        go_simp
        exact ⟨γ, SR.refl _ _ _, fun _ _ _ h => h, rfl⟩
      · refine LinStep.yes fun vals γ w' ρ hR hN hp hρ hc hf hg => ⟨rfl, ?_⟩
        have hi := hR.inv ⟨by omega, fun _ => HE2.out.drew⟩
        have e83 : ρ (.tmp 83) = _ := (hρ 83).trans (hp 20 (by decide))
        have e85 : ρ (.tmp 85) = _ := (hρ 85).trans (hp 22 (by decide))
        have h0 : γ = 0 := by have h : γ < 1 := hN; omega
        subst h0
        have HX := Lib.hid (hi.2 (by omega))
        clear hR hN hp hρ hi
        go_light
        go_simp
        exact ⟨1, SR.up (by omega) ⟨by omega, fun _ => HX.out.alloc _⟩, SN.up (by omega) (by decide) rfl, _, rfl, by omega, fun _ => Blk.new _ _ _⟩
      · refine LinStep.yes fun vals γ w' ρ hR hN hp hρ hc hf hg => ⟨rfl, ?_⟩
        have hi := hR.inv ⟨by omega, fun _ => HE2.out.drew⟩
        obtain ⟨gg, g23, hr1, hbk⟩ := hp 23 (by decide)
        have e86 : ρ (.tmp 86) = _ := (hρ 86).trans g23
        have h0 : γ = 1 := by have h : γ < 2 := hN; omega
        subst h0
        have HX := Lib.hid (hi.2 (by omega))
        have HBK := Lib.hid (hbk rfl)
        clear hR hN hp hρ hi g23 hbk
        go_light
        go_simp
        refine (r06_Made [q1, q2] (by simp) (some ⟨gg, 0, none⟩) 2 w' (fun _ => True) ⟨HBK.out.rd.mono fun _ _ _ => trivial, by simp⟩).mono ?_
        rintro e' w3 ⟨x, A1, c1, B1, e1, he, hcp, hv, hx3⟩
        exact ⟨_, he, 2, SR.up (by omega) ⟨by omega, fun _ => HX.out.trans hx3⟩, SN.up (by omega) (by decide) rfl, x, A1, c1, B1, e1, rfl, by omega, fun _ => ⟨hcp, hv.mono fun b _ hb => Nat.le_trans HX.out.size hb⟩⟩
      · refine LinStep.yes fun vals γ w' ρ hR hN hp hρ hc hf hg => ⟨rfl, ?_⟩
        have hi := hR.inv ⟨by omega, fun _ => HE2.out.drew⟩
        have e67 : ρ (.tmp 67) = _ := (hρ 67).trans (hp 4 (by decide))
        have e81 : ρ (.tmp 81) = _ := (hρ 81).trans (hp 18 (by decide))
        have i0 : (0 : Int) ≤ (J : Int) := by omega
        have i1 : (J : Int) < (m : Int) := by omega
        clear hR hN hp hρ hi
        go_light
        go_simp
        exact ⟨γ, SR.refl _ _ _, fun _ _ _ h => h, rfl⟩
      · refine LinStep.yes fun vals γ w' ρ hR hN hp hρ hc hf hg => ⟨rfl, ?_⟩
        have hi := hR.inv ⟨by omega, fun _ => HE2.out.drew⟩
        obtain ⟨x, A1, c1, B1, e1, g24, hr2, hbk⟩ := hp 24 (by decide)
        have e87 : ρ (.tmp 87) = _ := (hρ 87).trans g24
        have e88 : ρ (.tmp 88) = _ := (hρ 88).trans (hp 25 (by decide))
        have h0 : γ = 2 := by have h : γ < 3 := hN; omega
        subst h0
        have hx := hi.2 (by omega)
        obtain ⟨⟨x0, x1, x2, x3, x4, x5, x6, p0, p1, p2, p3, p4, p5, p6⟩, pf, pz⟩ := HST.out w' hx
        have HX := Lib.hid hx
        have HBK := Lib.hid (hbk rfl)
        clear hR hN hp hρ hi hx g24 hbk
        go_light
        go_simp
        exact ⟨3, SR.up (by omega) ⟨by omega, fun h => absurd h (by omega)⟩, SN.up (by omega) (by decide) rfl, by omega, fun _ => ⟨w', x, A1, c1, B1, e1, HX.out, HBK.out.1, HBK.out.2, rfl⟩⟩
      · intro vals γ w'' hR hG
        have hi := hR.inv ⟨by omega, fun _ => HE2.out.drew⟩
        obtain ⟨h4, h5⟩ := hG 26 (by decide)
        obtain ⟨w3, x, A1, c1, B1, e1, hx3, hcp3, hv3, hw3⟩ := h5 (by have := hi.1; omega)
        have HX3 := Lib.hid hx3
        have HV3 := Lib.hid hv3
        have HW3 := Lib.hid hw3
        clear hR hG hi h4 h5 hx3 hv3 hw3
        simp only [lexFrame, Act.put, List.setIfInBounds_toArray, List.set_cons_succ, List.set_cons_zero, Nat.zero_add, Nat.reduceAdd]
        generalize vals 0 = z0, vals 1 = z1, vals 2 = z2, vals 3 = z3, vals 4 = z4, vals 5 = z5, vals 6 = z6, vals 7 = z7, vals 8 = z8, vals 9 = z9, vals 10 = z10, vals 11 = z11, vals 12 = z12, vals 13 = z13, vals 14 = z14, vals 15 = z15, vals 16 = z16, vals 17 = z17, vals 18 = z18, vals 19 = z19, vals 20 = z20, vals 21 = z21, vals 22 = z22, vals 23 = z23, vals 24 = z24, vals 25 = z25, vals 26 = z26
        go_upto_region 27 with fail
        obtain ⟨wf, hwf⟩ : ∃ wf, wf = w'' := ⟨_, rfl⟩
        have HF := Lib.hid (show ∃ (t : Look) (A : Option Addr) (c : Nat) (B : Option Addr) (e : Nat), OF w t A c B e wf by rw [hwf]; exact odd3_fin HM.out HX3.out hcp3 HV3.out HW3.out hnm (by omega) hKn (by rw [HRL.out]; omega) (by rw [HRL.out]; omega) HV1.out HX1.out HSC.out HCL.out)
        rw [← hwf]
        clear hwf
        obtain ⟨t', A', c', B', e', hf⟩ := HF.out
        have HF := Lib.hid hf
        have f0 := hf.box.cell (i := 0) rfl
        have f1 := hf.box.cell (i := 1) rfl
        have f2 := hf.box.cell (i := 2) rfl
        have r0 := hf.res.cell (i := 0) rfl
        have r1 := hf.res.cell (i := 1) rfl
        have r2 := hf.res.cell (i := 2) rfl
        have rf := hf.res.frozen
        have rz := hf.res.lt
        clear hf d0 d1 d2 df dz g0 g1 g2 gz
        go_wp2
        all_goals refine bodyPost_ret (v := (.agg #[.string t'.name, .slice A' t'.cols.length c', .slice B' t'.rows.length e'])) (by simp [results, Tryz.results11, go_sem, r0, r1, r2, rf, rz]) rfl ⟨t', A', c', B', e', rfl, HF.out.cap, RL.mono (RL.keep HF.out.rl (K3 ?_)) fun b _ hb => by unfold Fresh; omega, E3 ?_⟩
        all_goals first | exact ⟨HF.out.ext, by omega⟩ | omega
  · have h1 : rows.length = 0 := by omega
    go_upto_region 27 with fail
    obtain ⟨wf, hwf⟩ : ∃ wf, wf = w2 := ⟨_, rfl⟩
    have HF := Lib.hid (show ∃ (t : Look) (A : Option Addr) (c : Nat) (B : Option Addr) (e : Nat), OF w t A c B e wf by rw [hwf]; exact ⟨_, _, _, _, _, HM.out.fin hnm (by omega) (by omega) HR4.out⟩)
    rw [← hwf]
    clear hwf
    obtain ⟨t', A', c', B', e', hf⟩ := HF.out
    have HF := Lib.hid hf
    have f0 := hf.box.cell (i := 0) rfl
    have f1 := hf.box.cell (i := 1) rfl
    have f2 := hf.box.cell (i := 2) rfl
    have r0 := hf.res.cell (i := 0) rfl
    have r1 := hf.res.cell (i := 1) rfl
    have r2 := hf.res.cell (i := 2) rfl
    have rf := hf.res.frozen
    have rz := hf.res.lt
    clear hf d0 d1 d2 df dz g0 g1 g2 gz
    go_wp2
    all_goals refine bodyPost_ret (v := (.agg #[.string t'.name, .slice A' t'.cols.length c', .slice B' t'.rows.length e'])) (by simp [results, Tryz.results11, go_sem, r0, r1, r2, rf, rz]) rfl ⟨t', A', c', B', e', rfl, HF.out.cap, RL.mono (RL.keep HF.out.rl (K3 ?_)) fun b _ hb => by unfold Fresh; omega, E3 ?_⟩
    all_goals first | exact ⟨HF.out.ext, by omega⟩ | omega
end Go.Proofs.YtcmmkeiiapbgcaaGreatDoor
/- The reference's Odd: some table, in new memory. Names of columns. A table that Made makes is right. Conditions: the table reads as data, and is regular. -/
namespace Go.Proofs.YtcmmkeiiapbgcaaGreatDoor
open Go Go.RowKit

theorem r09_Odd (t : Look) (A B : Option Addr) (c e : Nat) (q0 q1 q2 : Int) (w : World) (S : Nat → Prop) (h : RL w S 2 t A B) (ht : OkT t) : Calls Tryz.prog 11 #[(.agg #[.string t.name, .slice A t.cols.length c, .slice B t.rows.length e]), .agg #[.int .i64 q0, .int .i64 q1, .int .i64 q2]] w (RetOd w) := by
  obtain ⟨hb1, hb2⟩ := next_bd q0 8 (by omega)
  obtain ⟨hc1, hc2⟩ := next_bd q1 4 (by omega)
  obtain ⟨hd1, hd2⟩ := next_bd q1 8 (by omega)
  have hm : (q0.tmod 8 + 8) % 8 = 0 ∨ (q0.tmod 8 + 8) % 8 = 1 ∨ (q0.tmod 8 + 8) % 8 = 2 ∨ (q0.tmod 8 + 8) % 8 = 3 ∨ (q0.tmod 8 + 8) % 8 = 4 ∨ (q0.tmod 8 + 8) % 8 = 5 ∨ (q0.tmod 8 + 8) % 8 = 6 ∨ (q0.tmod 8 + 8) % 8 = 7 := by omega
  rcases hm with hm | hm | hm | hm | hm | hm | hm | hm
  · have hj : (q1.tmod 4 + 4) % 4 = 0 ∨ (q1.tmod 4 + 4) % 4 = 1 ∨ (q1.tmod 4 + 4) % 4 = 2 ∨ (q1.tmod 4 + 4) % 4 = 3 := by omega
    rcases hj with hj | hj | hj | hj
    · exact odd_0_0 t A B c e q0 q1 q2 w S h ht hm hj
    · exact odd_0_1 t A B c e q0 q1 q2 w S h ht hm hj
    · exact odd_0_2 t A B c e q0 q1 q2 w S h ht hm hj
    · exact odd_0_3 t A B c e q0 q1 q2 w S h ht hm hj
  · exact odd_1 t A B c e q0 q1 q2 w S h ht hm
  · exact odd_2 t A B c e q0 q1 q2 w S h ht hm
  · exact odd_3 t A B c e q0 q1 q2 w S h ht hm
  · exact odd_4 t A B c e q0 q1 q2 w S h ht hm
  · exact odd_5 t A B c e q0 q1 q2 w S h ht hm
  · exact odd_6 t A B c e q0 q1 q2 w S h ht hm ((q1.tmod 8 + 8) % 8).toNat (by omega) (by omega)
  · exact odd_7 t A B c e q0 q1 q2 w S h ht hm

def names6 : List ByteArray := [sCity, sZip, sCountry, sSince, ⟨#[120]⟩, ⟨#[]⟩]
def nameS (k : Int) : ByteArray := names6.getD ((k.tmod 6 + 6) % 6).toNat ⟨#[]⟩
theorem nameS_size (k : Int) : (nameS k).size ≤ 7 := by
  unfold nameS
  generalize ((k.tmod 6 + 6) % 6).toNat = j
  match j with
  | 0 => decide
  | 1 => decide
  | 2 => decide
  | 3 => decide
  | 4 => decide
  | 5 => decide
  | j + 6 => exact Nat.zero_le _
theorem law_names (k : Int) (w : World) : Calls Tryz.prog 13 #[.int .i64 k] w (fun e w' => e = .returned (.string (nameS k)) ∧ Ext w w') := by
  obtain ⟨hb1, hb2⟩ := next_bd k 6 (by omega)
  have hj : (k.tmod 6 + 6) % 6 = 0 ∨ (k.tmod 6 + 6) % 6 = 1 ∨ (k.tmod 6 + 6) % 6 = 2 ∨ (k.tmod 6 + 6) % 6 = 3 ∨ (k.tmod 6 + 6) % 6 = 4 ∨ (k.tmod 6 + 6) % 6 = 5 := by omega
  rcases hj with hj | hj | hj | hj | hj | hj
  all_goals
    go_enter Tryz.func13, Tryz.ntmps13
    go_wp2
    go_ret
    exact ⟨by unfold nameS; rw [hj]; rfl, (Ext.refl w).alloc _⟩
theorem kinds_made (c : Nat) (k : Int) : ∀ (rows : List (List Val)), (∀ r ∈ rows, (r.getD c Val.zero).kind = 0 ∨ (r.getD c Val.zero).kind = k) → ∀ kd, kd = 0 ∨ kd = k → kindsFrom c rows kd = true
  | [], _, _, _ => rfl
  | r :: rs, h, kd, hkd => by
    have h1 := h r List.mem_cons_self
    have ih := kinds_made c k rs fun x hx => h x (List.mem_cons_of_mem _ hx)
    unfold kindsFrom
    split
    · exact ih kd hkd
    · have hk : (r.getD c Val.zero).kind = k := by omega
      rw [if_neg (by omega)]
      exact ih _ (.inr hk)
theorem cellS_kind {k : Int} (h : k = 1 ∨ k = 2 ∨ k = 3) {m : Nat} (hm : m < 5) : ((cellS k m).kind = 0 ∨ (cellS k m).kind = k) ∧ (cellS k m).kind ≠ 5 ∧ flatB (cellS k m) = true := by
  rcases h with rfl | rfl | rfl <;> match m, hm with
    | 0, _ => exact ⟨by decide, by decide, by decide⟩
    | 1, _ => exact ⟨by decide, by decide, by decide⟩
    | 2, _ => exact ⟨by decide, by decide, by decide⟩
    | 3, _ => exact ⟨by decide, by decide, by decide⟩
    | 4, _ => exact ⟨by decide, by decide, by decide⟩
    | n + 5, h => omega
theorem made_right {nm : ByteArray} {t : Look} (h : MadeT nm t) (hn : nameB nm = true) : lookR t = true := by
  obtain ⟨h1, ks, h2, h3, h4, h5, h6, h7, h8⟩ := h
  have hcl : t.cols.length = ks.length := by rw [h4, List.length_take]; have : names4.length = 4 := rfl; omega
  unfold lookR
  simp only [Bool.and_eq_true, decide_eq_true_eq]
  refine ⟨⟨⟨by rw [h1]; exact hn, fun h => by rw [h] at hcl; simp at hcl; omega⟩, ?_⟩, ?_⟩
  · unfold tableR
    simp only [Bool.and_eq_true, decide_eq_true_eq]
    refine ⟨⟨⟨by omega, by omega⟩, ?_⟩, ?_⟩
    · rw [hcl, h4]
      have : ks.length = 1 ∨ ks.length = 2 ∨ ks.length = 3 ∨ ks.length = 4 := by omega
      rcases this with e | e | e | e <;> rw [e] <;> decide
    · rw [List.all_eq_true]
      intro r hr
      obtain ⟨g1, g2⟩ := h8 r hr
      simp only [rowOK, Bool.and_eq_true, decide_eq_true_eq, List.all_eq_true]
      refine ⟨by omega, fun x hx => ?_⟩
      obtain ⟨j, hj, rfl⟩ := List.mem_iff_getElem.1 hx
      obtain ⟨m, hm, e⟩ := g2 j hj (by omega)
      have := cellS_kind (h6 ks[j] (List.getElem_mem (by omega))) hm
      rw [e]
      simp [cellOK, this.2.1, this.2.2]
  · rw [List.all_eq_true]
    intro c hc
    rw [List.mem_range, hcl] at hc
    refine kinds_made c ks[c] t.rows (fun r hr => ?_) 0 (.inl rfl)
    obtain ⟨g1, g2⟩ := h8 r hr
    obtain ⟨m, hm, e⟩ := g2 c (by omega) hc
    rw [List.getD_eq_getElem?_getD, List.getElem?_eq_getElem (by omega), Option.getD_some, e]
    exact (cellS_kind (h6 ks[c] (List.getElem_mem hc)) hm).1
theorem made_ok {nm : ByteArray} {t : Look} (h : MadeT nm t) : OkT t := by
  obtain ⟨h1, ks, h2, h3, h4, h5, h6, h7, h8⟩ := h
  have hcl : t.cols.length = ks.length := by rw [h4, List.length_take]; have : names4.length = 4 := rfl; omega
  exact ⟨by omega, by omega, h7, fun r hr => by rw [(h8 r hr).1, hcl]⟩
end Go.Proofs.YtcmmkeiiapbgcaaGreatDoor
/- What the law's examples come to, reckoned on the plain functions. No conditions. -/
namespace Go.Proofs.YtcmmkeiiapbgcaaGreatDoor
open Go Go.RowKit

def sOslo : ByteArray := ⟨#[79, 115, 108, 111]⟩
def sParis : ByteArray := ⟨#[80, 97, 114, 105, 115]⟩
def sNo : ByteArray := ⟨#[110, 111]⟩
def sA : ByteArray := ⟨#[97]⟩
def sB : ByteArray := ⟨#[98]⟩
def sC : ByteArray := ⟨#[99]⟩
def sN : ByteArray := ⟨#[110]⟩
def wantD : List Dep := [⟨[sCity], sZip⟩, ⟨[sCity], sCountry⟩, ⟨[sZip], sCity⟩, ⟨[sZip], sCountry⟩]
def abD : List Dep := [⟨[sA], sB⟩, ⟨[sB], sC⟩]
def nV : Val := ⟨5, ⟨#[]⟩, 0, 0, 0, [sN], [[numV 3 0], [numV (-5) 0], [numV 4 0]]⟩
set_option maxRecDepth 100000
theorem san_right : lookR citiesT = true := by kernel_rfl
theorem san_find1 : findS citiesT sCity (textV sOslo) sCountry = (textV sNo, 0) := by kernel_rfl
theorem san_find2 : findS citiesT sCity (textV sParis) sCountry = (Val.zero, 18) := by kernel_rfl
theorem san_keys : keysS citiesT.cols citiesT.rows = wantD := by kernel_rfl
theorem san_sum1 : sumS nV sN (-2) 0 = (numV 2 0, 0) := by kernel_rfl
theorem san_sum2 : sumS nV sN 0 0 = (Val.zero, 20) := by kernel_rfl
theorem san_hold1 : holdsS citiesT.cols citiesT.rows [sCountry] sZip = false := by kernel_rfl
theorem san_hold2 : holdsS citiesT.cols citiesT.rows [sCity] sCountry = true := by kernel_rfl
end Go.Proofs.YtcmmkeiiapbgcaaGreatDoor
/- Closures are one: the sorted list is determined. The law's example of one. No conditions. -/
namespace Go.Proofs.YtcmmkeiiapbgcaaGreatDoor
open Go Go.RowKit

theorem sortS_perm {k k' : List ByteArray} (h : k.Perm k') : sortS k = sortS k' := by
  unfold sortS
  rw [sort_perm (h.map _)]
theorem IsClosure.mem {l : List Dep} {frm ks ks' : List ByteArray} (h : IsClosure l frm ks) (h' : IsClosure l frm ks') (x : ByteArray) : x ∈ ks ↔ x ∈ ks' :=
  ⟨fun hx => h.least (· ∈ ks') h'.base h'.closed x hx, fun hx => h'.least (· ∈ ks) h.base h.closed x hx⟩
theorem IsClosure.one {l : List Dep} {frm ks ks' : List ByteArray} (h : IsClosure l frm ks) (h' : IsClosure l frm ks') : sortS ks = sortS ks' :=
  sortS_perm ((List.perm_ext_iff_of_nodup h.nodup h'.nodup).2 (h.mem h'))
theorem san_clos0 : IsClosure abD [sA] [sA, sB, sC] := by
  refine ⟨by decide, by simp, ?_, ?_⟩
  · intro d hd _
    simp only [abD, List.mem_cons, List.not_mem_nil, or_false] at hd
    rcases hd with rfl | rfl <;> simp
  · intro T h1 h2 x hx
    have ha : T sA := h1 sA (by simp)
    have hb : T sB := h2 ⟨[sA], sB⟩ (by simp [abD]) (by simpa using ha)
    have hc : T sC := h2 ⟨[sB], sC⟩ (by simp [abD]) (by simpa using hb)
    simp only [List.mem_cons, List.not_mem_nil, or_false] at hx
    rcases hx with rfl | rfl | rfl
    · exact ha
    · exact hb
    · exact hc
theorem san_sort : sortS [sA, sB, sC] = [sA, sB, sC] := by
  unfold sortS sA sB sC
  have h1 : ([97] : List UInt8) ≤ [98] := by decide
  have h2 : ([97] : List UInt8) ≤ [99] := by decide
  have h3 : ([98] : List UInt8) ≤ [99] := by decide
  simp [List.mergeSort, List.MergeSort.Internal.splitInTwo, List.merge, h1, h2, h3]
theorem san_clos {ks : List ByteArray} (h : IsClosure abD [sA] ks) : sortS ks = [sA, sB, sC] := (h.one san_clos0).trans san_sort
end Go.Proofs.YtcmmkeiiapbgcaaGreatDoor
/- What the literals of the law's sanity lay into memory. No conditions. -/
namespace Go.Proofs.YtcmmkeiiapbgcaaGreatDoor
open Go Go.RowKit

theorem RDeps.build {w : World} {S : Nat → Prop} {g t : Nat} {cs : Array Value} {l : List Dep} (h : Blk w g t cs) (hs : cs.size = l.length * 2) (hg : S g) (hl : l.length ≤ 4294967296)
    (hr : ∀ (i : Nat) (d : Dep), l[i]? = some d → ∃ (B : Option Addr) (c : Nat), cs[i * 2]? = some (.slice B d.frm.length c) ∧ cs[i * 2 + 1]? = some (.string d.to) ∧ d.frm.length ≤ c ∧ d.to.size ≤ 4294967296 ∧ Strs w S B d.frm) : RDeps w S (some ⟨g, 0, none⟩) l := by
  refine ⟨hl, cs.toList, h.rd.mono (fun i _ hi => hi ▸ hg), by simpa using hs, fun i d hd => ?_⟩
  obtain ⟨B, c, h1, h2, h3⟩ := hr i d hd
  exact ⟨B, c, by simpa using h1, by simpa using h2, h3⟩
theorem Strs.one {w : World} {S : Nat → Prop} {g t : Nat} {s : ByteArray} (h : Blk w g t #[.string s]) (hs : s.size ≤ 4294967296) (hg : S g) : Strs w S (some ⟨g, 0, none⟩) [s] :=
  (Strs.of_blk h rfl (by simp) (by intro x hx; simp at hx; subst hx; exact hs)).mono fun _ _ hi => hi ▸ hg
/-- What five allocs lay. -/
theorem blk_at (w : World) (t : Nat) (cs : Array Value) {n : Nat} (hn : w.heap.size = n) : Blk (w.alloc (.cells cs t)) n t cs := hn ▸ Blk.new w t cs
def w5a (v : World) : World := ((((v.alloc (.cells #[.string sCity] 9)).alloc (.cells #[.string sCity] 9)).alloc (.cells #[.string sZip] 9)).alloc (.cells #[.string sZip] 9)).alloc
  (.cells #[.slice (some ⟨v.heap.size, 0, none⟩) 1 1, .string sZip, .slice (some ⟨v.heap.size + 1, 0, none⟩) 1 1, .string sCountry, .slice (some ⟨v.heap.size + 1 + 1, 0, none⟩) 1 1, .string sCity, .slice (some ⟨v.heap.size + 1 + 1 + 1, 0, none⟩) 1 1, .string sCountry] 52)
theorem w5a_ext (v : World) : Ext v (w5a v) := (((((Ext.refl v).alloc _).alloc _).alloc _).alloc _).alloc _
theorem w5a_mem (v : World) : RDeps (w5a v) (fun b => v.heap.size ≤ b) (some ⟨v.heap.size + 1 + 1 + 1 + 1, 0, none⟩) wantD := by
  have b1 : Blk (w5a v) v.heap.size 9 #[.string sCity] := ((((Blk.new v 9 #[.string sCity]).keep (Kept.alloc _ _ _)).keep (Kept.alloc _ _ _)).keep (Kept.alloc _ _ _)).keep (Kept.alloc _ _ _)
  have b2 : Blk (w5a v) (v.heap.size + 1) 9 #[.string sCity] := (((blk_at _ 9 #[.string sCity] (by simp)).keep (Kept.alloc _ _ _)).keep (Kept.alloc _ _ _)).keep (Kept.alloc _ _ _)
  have b3 : Blk (w5a v) (v.heap.size + 1 + 1) 9 #[.string sZip] := ((blk_at _ 9 #[.string sZip] (by simp)).keep (Kept.alloc _ _ _)).keep (Kept.alloc _ _ _)
  have b4 : Blk (w5a v) (v.heap.size + 1 + 1 + 1) 9 #[.string sZip] := (blk_at _ 9 #[.string sZip] (by simp)).keep (Kept.alloc _ _ _)
  have b5 := blk_at ((((v.alloc (.cells #[.string sCity] 9)).alloc (.cells #[.string sCity] 9)).alloc (.cells #[.string sZip] 9)).alloc (.cells #[.string sZip] 9)) 52 #[.slice (some ⟨v.heap.size, 0, none⟩) 1 1, .string sZip, .slice (some ⟨v.heap.size + 1, 0, none⟩) 1 1, .string sCountry, .slice (some ⟨v.heap.size + 1 + 1, 0, none⟩) 1 1, .string sCity, .slice (some ⟨v.heap.size + 1 + 1 + 1, 0, none⟩) 1 1, .string sCountry] (n := v.heap.size + 1 + 1 + 1 + 1) (by simp)
  refine RDeps.build (show Blk (w5a v) _ _ _ from b5) rfl (by omega) (by decide) ?_
  intro i d hi
  match i, hi with
  | 0, hi => cases hi; exact ⟨_, 1, rfl, rfl, Nat.le_refl _, by decide, Strs.one b1 (by decide) (by omega)⟩
  | 1, hi => cases hi; exact ⟨_, 1, rfl, rfl, Nat.le_refl _, by decide, Strs.one b2 (by decide) (by omega)⟩
  | 2, hi => cases hi; exact ⟨_, 1, rfl, rfl, Nat.le_refl _, by decide, Strs.one b3 (by decide) (by omega)⟩
  | 3, hi => cases hi; exact ⟨_, 1, rfl, rfl, Nat.le_refl _, by decide, Strs.one b4 (by decide) (by omega)⟩
  | n + 4, hi => simp [wantD] at hi
def w6a (v : World) : World := (((v.alloc (.cells #[.string sA] 9)).alloc (.cells #[.string sB] 9)).alloc (.cells #[.slice (some ⟨v.heap.size, 0, none⟩) 1 1, .string sB, .slice (some ⟨v.heap.size + 1, 0, none⟩) 1 1, .string sC] 52)).alloc (.cells #[.string sA] 9)
theorem w6a_ext (v : World) : Ext v (w6a v) := ((((Ext.refl v).alloc _).alloc _).alloc _).alloc _
theorem w6a_mem (v : World) : RDeps (w6a v) (fun b => v.heap.size ≤ b) (some ⟨v.heap.size + 1 + 1, 0, none⟩) abD ∧ Strs (w6a v) (fun b => v.heap.size ≤ b) (some ⟨v.heap.size + 1 + 1 + 1, 0, none⟩) [sA] := by
  have b1 : Blk (w6a v) v.heap.size 9 #[.string sA] := (((Blk.new v 9 #[.string sA]).keep (Kept.alloc _ _ _)).keep (Kept.alloc _ _ _)).keep (Kept.alloc _ _ _)
  have b2 : Blk (w6a v) (v.heap.size + 1) 9 #[.string sB] := ((blk_at _ 9 #[.string sB] (by simp)).keep (Kept.alloc _ _ _)).keep (Kept.alloc _ _ _)
  have b3 : Blk (w6a v) (v.heap.size + 1 + 1) 52 #[.slice (some ⟨v.heap.size, 0, none⟩) 1 1, .string sB, .slice (some ⟨v.heap.size + 1, 0, none⟩) 1 1, .string sC] := (blk_at _ 52 _ (by simp)).keep (Kept.alloc _ _ _)
  have b4 : Blk (w6a v) (v.heap.size + 1 + 1 + 1) 9 #[.string sA] := blk_at _ 9 #[.string sA] (by simp)
  refine ⟨RDeps.build b3 rfl (by omega) (by decide) ?_, Strs.one b4 (by decide) (by omega)⟩
  intro i d hi
  match i, hi with
  | 0, hi => cases hi; exact ⟨_, 1, rfl, rfl, Nat.le_refl _, by decide, Strs.one b1 (by decide) (by omega)⟩
  | 1, hi => cases hi; exact ⟨_, 1, rfl, rfl, Nat.le_refl _, by decide, Strs.one b2 (by decide) (by omega)⟩
  | n + 2, hi => simp [abD] at hi
theorem keep3 {w w' : World} {p0 p1 p2 : Addr} {v0 v1 v2 : Value} (h : Ext w w') (h0 : w.cell? p0 = some v0) (h1 : w.cell? p1 = some v1) (h2 : w.cell? p2 = some v2) :
    w'.cell? p0 = some v0 ∧ w'.cell? p1 = some v1 ∧ w'.cell? p2 = some v2 := ⟨h.cell h0, h.cell h1, h.cell h2⟩
theorem RV.flat {w : World} {S : Nat → Prop} {d : Nat} {y : Val} {A B : Option Addr} (h : flatV y) : RV w S d y A B := RV.mk h.2.2 (by rw [h.1]; exact Strs.nil) (by rw [h.2.1]; exact Rows.nil)
def noV : Val := textV sNo
theorem rown (n : Int) {w : World} {g t : Nat} {S : Nat → Prop} (h : Blk w g t (rowC [numV n 0])) (hg : S g) : Row w S 1 (some ⟨g, 0, none⟩) [numV n 0] := by
  refine (Row.flat h rfl (fun y hy => ?_) (by omega) (by simp)).mono fun _ _ hi => hi ▸ hg
  simp only [List.mem_cons, List.not_mem_nil, or_false] at hy
  subst hy
  exact flat_num _ _
/-- The table of numbers. -/
theorem nV_mem {v : World} {k a b : Nat} {S : Nat → Prop} (B1 : Blk v k 9 #[.string sN]) (C1 : Blk v a 33 (rowC [numV 3 0])) (C2 : Blk v b 33 (rowC [numV (-5) 0]))
    (h1 : S k) (h2 : S a) (h3 : S b) (h4 : S v.heap.size) (h5 : S (v.heap.size + 1)) :
    RV ((v.alloc (.cells (rowC [numV 4 0]) 33)).alloc (.cells #[.slice (some ⟨a, 0, none⟩) 1 1, .slice (some ⟨b, 0, none⟩) 1 1, .slice (some ⟨v.heap.size, 0, none⟩) 1 1] 45)) S 1 nV (some ⟨k, 0, none⟩) (some ⟨v.heap.size + 1, 0, none⟩) := by
  have x : Ext v ((v.alloc (.cells (rowC [numV 4 0]) 33)).alloc (.cells #[.slice (some ⟨a, 0, none⟩) 1 1, .slice (some ⟨b, 0, none⟩) 1 1, .slice (some ⟨v.heap.size, 0, none⟩) 1 1] 45)) := ((Ext.refl v).alloc _).alloc _
  have C3 := (Blk.new v 33 (rowC [numV 4 0])).keep (Kept.alloc _ _ (.cells #[.slice (some ⟨a, 0, none⟩) 1 1, .slice (some ⟨b, 0, none⟩) 1 1, .slice (some ⟨v.heap.size, 0, none⟩) 1 1] 45))
  have D := blk_at (v.alloc (.cells (rowC [numV 4 0]) 33)) 45 #[.slice (some ⟨a, 0, none⟩) 1 1, .slice (some ⟨b, 0, none⟩) 1 1, .slice (some ⟨v.heap.size, 0, none⟩) 1 1] (n := v.heap.size + 1) (by simp)
  refine RV.mk (by decide) (Strs.one (B1.keep (x.kept _)) (by decide) h1) (Rows.build D rfl h5 (by decide) ?_)
  intro i r hi
  match i, hi with
  | 0, hi => cases hi; exact ⟨_, 1, rfl, Nat.le_refl _, rown _ (C1.keep (x.kept _)) h2⟩
  | 1, hi => cases hi; exact ⟨_, 1, rfl, Nat.le_refl _, rown _ (C2.keep (x.kept _)) h3⟩
  | 2, hi => cases hi; exact ⟨_, 1, rfl, Nat.le_refl _, rown _ C3 h4⟩
  | n + 3, hi => simp [nV] at hi
end Go.Proofs.YtcmmkeiiapbgcaaGreatDoor
/- The law's sanity: true. Condition: the table of tens is there. -/
namespace Go.Proofs.YtcmmkeiiapbgcaaGreatDoor
open Go Go.RowKit

def twoV : Val := numV 2 0
/-- The facts of the statement 'v, e := table.Find(t, city, text(key), country)'. -/
def gFind (A : Option Addr) (c : Nat) (B : Option Addr) (e : Nat) (key : ByteArray) (res : Val) (code : Int) : Nat → List Value → Gh → World → Prop
  | 0, [v], _, _ => v = (.agg #[.string citiesT.name, .slice A citiesT.cols.length c, .slice B citiesT.rows.length e])
  | 1, [v], _, _ => ∃ x, x = textV key ∧ v = (.agg #[.int .i64 x.kind, .string x.s, .int .i64 x.dn, .int .i64 x.ds, .int .i64 x.n, .slice none x.cols.length 0, .slice none x.rows.length 0])
  | 2, [v], _, _ => ∃ Av cv Bv ev, v = .tuple #[(.agg #[.int .i64 res.kind, .string res.s, .int .i64 res.dn, .int .i64 res.ds, .int .i64 res.n, .slice Av res.cols.length cv, .slice Bv res.rows.length ev]), .int .i64 code]
  | 3, [v], _, _ => ∃ Av cv Bv ev, v = .tuple #[(.agg #[.int .i64 res.kind, .string res.s, .int .i64 res.dn, .int .i64 res.ds, .int .i64 res.n, .slice Av res.cols.length cv, .slice Bv res.rows.length ev]), .int .i64 code]
  | 4, [v], _, _ => ∃ Av cv Bv ev, v = (.agg #[.int .i64 res.kind, .string res.s, .int .i64 res.dn, .int .i64 res.ds, .int .i64 res.n, .slice Av res.cols.length cv, .slice Bv res.rows.length ev])
  | 5, [v], _, _ => v = .int .i64 code
  | 6, [v], γ, w => VarAt 6 33 7 v γ w
  | 7, [p, _], γ, w => ∃ Av cv Bv ev, VarIs 33 p #[.int .i64 res.kind, .string res.s, .int .i64 res.dn, .int .i64 res.ds, .int .i64 res.n, .slice Av res.cols.length cv, .slice Bv res.rows.length ev] γ w
  | 8, [v], _, _ => v = .int .i64 code
  | _, _, _, _ => True
def dFind : Nat → List Nat | 7 => [6, 7] | i => [i]
theorem gFind_st (A : Option Addr) (c : Nat) (B : Option Addr) (e : Nat) (key : ByteArray) (res : Val) (code : Int) : ∀ i l γ w γ' w', LR γ w γ' w' → gFind A c B e key res code i l γ w → gFind A c B e key res code i l γ' w' := by
  intro i l γ w γ' w' r h
  unfold gFind at h ⊢
  split at h <;> first | exact h | exact VarAt.lr r h | (obtain ⟨a, b, c, d, h⟩ := h; exact ⟨a, b, c, d, VarIs.lr r h⟩)

/-- The values of the statement 'return table.Right(t) && ..'. -/
def vSan (A : Option Addr) (c : Nat) (B : Option Addr) (e : Nat) (Av : Option Addr) (cv : Nat) (Bv : Option Addr) (ev : Nat) (Ak : Option Addr) (ck : Nat) (w5 : World) (A7 : Option Addr) (c7 : Nat) (As : Option Addr) (cs : Nat) (Bs : Option Addr) (es : Nat) : Nat → Value
  | 0 => (.agg #[.string citiesT.name, .slice A citiesT.cols.length c, .slice B citiesT.rows.length e])
  | 1 => .bool true
  | 2 => .bool true
  | 3 => .int .i64 0
  | 4 => .bool true
  | 5 => .bool true
  | 6 => .bool true
  | 7 => (.agg #[.int .i64 noV.kind, .string noV.s, .int .i64 noV.dn, .int .i64 noV.ds, .int .i64 noV.n, .slice Av noV.cols.length cv, .slice Bv noV.rows.length ev])
  | 8 => (.agg #[.int .i64 noV.kind, .string noV.s, .int .i64 noV.dn, .int .i64 noV.ds, .int .i64 noV.n, .slice none noV.cols.length 0, .slice none noV.rows.length 0])
  | 9 => .bool true
  | 10 => .bool true
  | 11 => .bool true
  | 12 => .int .i64 18
  | 13 => .bool true
  | 14 => .bool true
  | 15 => .bool true
  | 16 => .slice Ak wantD.length ck
  | 17 => .slice (some ⟨w5.heap.size + 1 + 1 + 1 + 1, 0, none⟩) 4 4
  | 18 => .bool true
  | 19 => .bool true
  | 20 => .bool true
  | 21 => .bool true
  | 22 => .bool true
  | 23 => .bool true
  | 24 => .slice A7 3 c7
  | 26 => .bool true
  | 27 => .bool true
  | 28 => .bool true
  | 29 => .int .i64 0
  | 30 => .bool true
  | 31 => .bool true
  | 32 => .bool true
  | 33 => (.agg #[.int .i64 twoV.kind, .string twoV.s, .int .i64 twoV.dn, .int .i64 twoV.ds, .int .i64 twoV.n, .slice As twoV.cols.length cs, .slice Bs twoV.rows.length es])
  | 34 => (.agg #[.int .i64 twoV.kind, .string twoV.s, .int .i64 twoV.dn, .int .i64 twoV.ds, .int .i64 twoV.n, .slice none twoV.cols.length 0, .slice none twoV.rows.length 0])
  | 35 => .bool true
  | 36 => .bool true
  | 37 => .bool true
  | 38 => .int .i64 20
  | 39 => .bool true
  | 40 => .bool true
  | 41 => .bool true
  | _ => undef
def gSan (A : Option Addr) (c : Nat) (B : Option Addr) (e : Nat) (Av : Option Addr) (cv : Nat) (Bv : Option Addr) (ev : Nat) (Ak : Option Addr) (ck : Nat) (w5 : World) (A7 : Option Addr) (c7 : Nat) (As : Option Addr) (cs : Nat) (Bs : Option Addr) (es : Nat) (i : Nat) (l : List Value) (γ : Gh) (w : World) : Prop := match l with
  | [v] => if i = 25 then ∃ g, v = .slice (some ⟨g, 0, none⟩) 3 3 ∧ Strs w (Free γ) (some ⟨g, 0, none⟩) [sA, sB, sC] else v = vSan A c B e Av cv Bv ev Ak ck w5 A7 c7 As cs Bs es i
  | _ => True
theorem gSan_st (A : Option Addr) (c : Nat) (B : Option Addr) (e : Nat) (Av : Option Addr) (cv : Nat) (Bv : Option Addr) (ev : Nat) (Ak : Option Addr) (ck : Nat) (w5 : World) (A7 : Option Addr) (c7 : Nat) (As : Option Addr) (cs : Nat) (Bs : Option Addr) (es : Nat) : ∀ i l γ w γ' w', LR γ w γ' w' → gSan A c B e Av cv Bv ev Ak ck w5 A7 c7 As cs Bs es i l γ w → gSan A c B e Av cv Bv ev Ak ck w5 A7 c7 As cs Bs es i l γ' w' := by
  intro i l γ w γ' w' r h
  match l, h with
  | [v], h =>
    unfold gSan at h ⊢
    by_cases hi : i = 25
    · simp only [if_pos hi] at h ⊢
      obtain ⟨g, h1, h2⟩ := h
      exact ⟨g, h1, r.strs h2⟩
    · simp only [if_neg hi] at h ⊢
      exact h
  | [], _ => trivial
  | _ :: _ :: _, _ => trivial
def dSan : Nat → List Nat := fun i => [i]
set_option maxRecDepth 100000 in
set_option maxHeartbeats 2000000 in
theorem law_sanity (w : World) (ht : Tens w) : Calls Tryz.prog 8 #[] w (RetB w true) := by
  have HT := Lib.hid ht
  clear ht
  go_enter Tryz.func8, Tryz.ntmps8
  go_wp2_with fail
  refine (law_cities _).mono ?_
  rintro e1 w1 ⟨A, c, B, e, rfl, ⟨hcp1, hcp2⟩, hrl, hx1⟩
  have HCP1 := Lib.hid hcp1
  have HRL := Lib.hid (hrl.keep (Kept.alloc _ _ (.cells #[.string citiesT.name, .slice A citiesT.cols.length c, .slice B citiesT.rows.length e] 28)))
  have HX2 := Lib.hid (hx1.alloc (.cells #[.string citiesT.name, .slice A citiesT.cols.length c, .slice B citiesT.rows.length e] 28))
  have HBT := Lib.hid (Blk.new w1 28 #[.string citiesT.name, .slice A citiesT.cols.length c, .slice B citiesT.rows.length e])
  clear hrl hx1 hcp1 hcp2
  go_upto_region 2 with fail
  obtain ⟨w2, hw2⟩ : ∃ w2, w2 = w1.alloc (.cells #[.string citiesT.name, .slice A citiesT.cols.length c, .slice B citiesT.rows.length e] 28) := ⟨_, rfl⟩
  rw [← hw2] at HRL HX2 HBT
  rw [← hw2]
  clear hw2
  have t0 := HBT.out.cell (i := 0) rfl
  have t1 := HBT.out.cell (i := 1) rfl
  have t2 := HBT.out.cell (i := 2) rfl
  clear HBT
  go_upto_region 2 with fail
  go_cut [2, 3] from 15 to 127 (fun p b wx => ∃ g Av cv Bv ev, p = .pointer (some ⟨g, 0, none⟩) ∧ b = .int .i64 0 ∧ Ext w2 wx ∧ Blk wx g 33 #[.int .i64 noV.kind, .string noV.s, .int .i64 noV.dn, .int .i64 noV.ds, .int .i64 noV.n, .slice Av noV.cols.length cv, .slice Bv noV.rows.length ev])
  case first =>
    refine wp_region_lin_lit (by kernel_rfl) dFind (by kernel_rfl) LR LR.refl LR.trans (LN (al1 7 6)) (gFind A c B e sOslo noV 0) (gFind_st _ _ _ _ _ _ _) gh0 (LN.zero _) ⟨?_, ?_, ?_, ?_, ?_, ?_, ?_, ?_, ?_, trivial⟩ ?_
    · refine LinStep.yes fun vals γ w' ρ hR hN hp hρ hc hf hg => ⟨rfl, ?_⟩
      have hx := hR.drew_ext
      have c0 := hx.cell t0
      have c1 := hx.cell t1
      have c2 := hx.cell t2
      have e1 : ρ (.tmp 1) = .pointer (some ⟨w1.heap.size, 0, none⟩) := hρ 1
      clear hR hN hp hρ t0 t1 t2 hx
      go_light
      go_simp
      exact ⟨γ, LR.refl _ _, fun _ _ _ h => h, rfl⟩
    · refine LinStep.yes fun vals γ w' ρ hR hN hp hρ hc hf hg => ⟨rfl, ?_⟩
      clear hR hN hp hρ t0 t1 t2
      go_light
      go_simp
      exact (law_text _ _).mono fun e' w3 ⟨he, hx⟩ => ⟨_, he, γ, LR.of_ext γ hx, fun _ _ _ h => h, _, rfl, rfl⟩
    · refine LinStep.yes fun vals γ w' ρ hR hN hp hρ hc hf hg => ⟨rfl, ?_⟩
      have e17 : ρ (.tmp 17) = _ := (hρ 17).trans (hp 0 (by decide))
      obtain ⟨x, hx1, g1⟩ := hp 1 (by decide)
      have e18 : ρ (.tmp 18) = _ := (hρ 18).trans g1
      have HR := Lib.hid hR
      subst hx1
      clear hR hN hp hρ t0 t1 t2 g1
      go_light
      go_simp
      refine (table_Find 1 citiesT sCity (textV sOslo) sCountry A B none none c e 0 0 _ (Fresh w) (Fresh w) (HRL.out.keep (HR.out.drew_ext.kept _)) HCP1.out (RV.flat (flat_text _ (by decide)))).mono ?_
      rintro e1 w4 ⟨Av, cv, Bv, ev, he, -, -, hx4⟩
      rw [san_find1] at he
      exact ⟨_, he, γ, LR.of_ext γ hx4, fun _ _ _ h => h, Av, cv, Bv, ev, rfl⟩
    · refine LinStep.yes fun vals γ w' ρ hR hN hp hρ hc hf hg => ⟨rfl, ?_⟩
      obtain ⟨Av, cv, Bv, ev, g⟩ := hp 2 (by decide)
      have e19 : ρ (.tmp 19) = _ := (hρ 19).trans g
      clear hR hN hp hρ t0 t1 t2 g
      go_light
      go_simp
      exact ⟨γ, LR.refl _ _, fun _ _ _ h => h, Av, cv, Bv, ev, rfl⟩
    · refine LinStep.yes fun vals γ w' ρ hR hN hp hρ hc hf hg => ⟨rfl, ?_⟩
      obtain ⟨Av, cv, Bv, ev, g⟩ := hp 3 (by decide)
      have e19 : ρ (.tmp 16) = _ := (hρ 16).trans g
      clear hR hN hp hρ t0 t1 t2 g
      go_light
      go_simp
      exact ⟨γ, LR.refl _ _, fun _ _ _ h => h, Av, cv, Bv, ev, rfl⟩
    · refine LinStep.yes fun vals γ w' ρ hR hN hp hρ hc hf hg => ⟨rfl, ?_⟩
      obtain ⟨Av, cv, Bv, ev, g⟩ := hp 3 (by decide)
      have e19 : ρ (.tmp 16) = _ := (hρ 16).trans g
      clear hR hN hp hρ t0 t1 t2 g
      go_light
      go_simp
      exact ⟨γ, LR.refl _ _, fun _ _ _ h => h, rfl⟩
    · refine LinStep.yes fun vals γ w' ρ hR hN hp hρ hc hf hg => ⟨rfl, ?_⟩
      have HB := Lib.hid hR.inb0
      have HN := Lib.hid hN
      clear hR hN hp hρ t0 t1 t2
      go_light
      go_simp
      exact ⟨γ.put 6 (some w'.heap.size), LR.new (HN.out.2 ⟨7, rfl⟩) _ _, LN.made, VarAt.new HB.out rfl⟩
    · refine LinStep.yes fun vals γ w' ρ hR hN hp hρ hc hf hg => ⟨rfl, ?_⟩
      obtain ⟨Av, cv, Bv, ev, g4⟩ := hp 4 (by decide)
      have e20 : ρ (.tmp 20) = _ := (hρ 20).trans g4
      obtain ⟨g, hv, hcs, hk, hst⟩ := VarAt.store7 (hp 6 (by decide)) (s := 7) (al := al1 7 6) rfl hN
      have e2 : ρ (.tmp 2) = _ := (hρ 2).trans hv
      obtain ⟨⟨x0, x1, x2, x3, x4, x5, x6, k0, k1, k2, k3, k4, k5, k6⟩, kf, kz⟩ := blk7 hcs
      have HST := Lib.hid hst
      have HK := Lib.hid hk
      clear hR hN hp hρ t0 t1 t2 g4 hv hst hcs hk
      go_light
      go_simp
      exact ⟨γ.put 6 none, (HST.out _ _ _ _ _ _ _).1, LN.stored al1_inj rfl HK.out, Av, cv, Bv, ev, (HST.out _ _ _ _ _ _ _).2⟩
    · refine LinStep.yes fun vals γ w' ρ hR hN hp hρ hc hf hg => ⟨rfl, ?_⟩
      have e21 : ρ (.tmp 21) = _ := (hρ 21).trans (hp 5 (by decide))
      clear hR hN hp hρ t0 t1 t2
      go_light
      go_simp
      exact ⟨γ, LR.refl _ _, fun _ _ _ h => h, rfl⟩
    · intro vals γ w' hR hG
      obtain ⟨Av, cv, Bv, ev, g, hv, hb, -⟩ := hG 7 (by decide)
      have h8 : vals 8 = .int .i64 0 := hG 8 (by decide)
      have HX := Lib.hid hR.drew_ext
      have HB := Lib.hid hb
      clear hR hG hb
      simp only [lexFrame, Act.put, List.setIfInBounds_toArray, List.set_cons_succ, List.set_cons_zero, Nat.zero_add, Nat.reduceAdd, hv, h8]
      generalize vals 0 = u0, vals 1 = u1, vals 2 = u2, vals 3 = u3, vals 4 = u4, vals 5 = u5
      clear hv h8
      go_wp2_with fail
      go_meet
      case rel => exact ⟨g, Av, cv, Bv, ev, rfl, rfl, HX.out, HB.out⟩
  case rest =>
  obtain ⟨g1, Av, cv, Bv, ev, rfl, rfl, hx3, hb3⟩ := hcut
  obtain ⟨w3, rfl⟩ : ∃ w3, w3 = wc := ⟨_, rfl⟩
  have s0 := hx3.cell t0
  have s1 := hx3.cell t1
  have s2 := hx3.cell t2
  have hz3 := hx3.size
  have HX3 := Lib.hid (HX2.out.trans hx3)
  have HB3 := Lib.hid hb3
  have HRL3 := Lib.hid (HRL.out.keep (hx3.kept _))
  clear hx3 hb3 HX2 HRL t0 t1 t2
  have HRL := HRL3
  have t0 := s0
  have t1 := s1
  have t2 := s2
  clear HRL3 s0 s1 s2
  go_upto_region 3 with fail
  go_cut [4, 5] from 15 to 127 (fun p b wx => ∃ g Av cv Bv ev, p = .pointer (some ⟨g, 0, none⟩) ∧ b = .int .i64 18 ∧ Ext w3 wx ∧ Blk wx g 33 #[.int .i64 Val.zero.kind, .string Val.zero.s, .int .i64 Val.zero.dn, .int .i64 Val.zero.ds, .int .i64 Val.zero.n, .slice Av Val.zero.cols.length cv, .slice Bv Val.zero.rows.length ev])
  case first =>
    refine wp_region_lin_lit (by kernel_rfl) dFind (by kernel_rfl) LR LR.refl LR.trans (LN (al1 7 6)) (gFind A c B e sParis Val.zero 18) (gFind_st _ _ _ _ _ _ _) gh0 (LN.zero _) ⟨?_, ?_, ?_, ?_, ?_, ?_, ?_, ?_, ?_, trivial⟩ ?_
    · refine LinStep.yes fun vals γ w' ρ hR hN hp hρ hc hf hg => ⟨rfl, ?_⟩
      have hx := hR.drew_ext
      have c0 := hx.cell t0
      have c1 := hx.cell t1
      have c2 := hx.cell t2
      have e1 : ρ (.tmp 1) = .pointer (some ⟨w1.heap.size, 0, none⟩) := hρ 1
      clear hR hN hp hρ t0 t1 t2 hx
      go_light
      go_simp
      exact ⟨γ, LR.refl _ _, fun _ _ _ h => h, rfl⟩
    · refine LinStep.yes fun vals γ w' ρ hR hN hp hρ hc hf hg => ⟨rfl, ?_⟩
      clear hR hN hp hρ t0 t1 t2
      go_light
      go_simp
      exact (law_text _ _).mono fun e' w3 ⟨he, hx⟩ => ⟨_, he, γ, LR.of_ext γ hx, fun _ _ _ h => h, _, rfl, rfl⟩
    · refine LinStep.yes fun vals γ w' ρ hR hN hp hρ hc hf hg => ⟨rfl, ?_⟩
      have e17 : ρ (.tmp 23) = _ := (hρ 23).trans (hp 0 (by decide))
      obtain ⟨x, hx1, g1⟩ := hp 1 (by decide)
      have e18 : ρ (.tmp 24) = _ := (hρ 24).trans g1
      have HR := Lib.hid hR
      subst hx1
      clear hR hN hp hρ t0 t1 t2 g1
      go_light
      go_simp
      refine (table_Find 1 citiesT sCity (textV sParis) sCountry A B none none c e 0 0 _ (Fresh w) (Fresh w) (HRL.out.keep (HR.out.drew_ext.kept _)) HCP1.out (RV.flat (flat_text _ (by decide)))).mono ?_
      rintro e1 w4 ⟨Av, cv, Bv, ev, he, -, -, hx4⟩
      rw [san_find2] at he
      exact ⟨_, he, γ, LR.of_ext γ hx4, fun _ _ _ h => h, Av, cv, Bv, ev, rfl⟩
    · refine LinStep.yes fun vals γ w' ρ hR hN hp hρ hc hf hg => ⟨rfl, ?_⟩
      obtain ⟨Av, cv, Bv, ev, g⟩ := hp 2 (by decide)
      have e19 : ρ (.tmp 25) = _ := (hρ 25).trans g
      clear hR hN hp hρ t0 t1 t2 g
      go_light
      go_simp
      exact ⟨γ, LR.refl _ _, fun _ _ _ h => h, Av, cv, Bv, ev, rfl⟩
    · refine LinStep.yes fun vals γ w' ρ hR hN hp hρ hc hf hg => ⟨rfl, ?_⟩
      obtain ⟨Av, cv, Bv, ev, g⟩ := hp 3 (by decide)
      have e19 : ρ (.tmp 22) = _ := (hρ 22).trans g
      clear hR hN hp hρ t0 t1 t2 g
      go_light
      go_simp
      exact ⟨γ, LR.refl _ _, fun _ _ _ h => h, Av, cv, Bv, ev, rfl⟩
    · refine LinStep.yes fun vals γ w' ρ hR hN hp hρ hc hf hg => ⟨rfl, ?_⟩
      obtain ⟨Av, cv, Bv, ev, g⟩ := hp 3 (by decide)
      have e19 : ρ (.tmp 22) = _ := (hρ 22).trans g
      clear hR hN hp hρ t0 t1 t2 g
      go_light
      go_simp
      exact ⟨γ, LR.refl _ _, fun _ _ _ h => h, rfl⟩
    · refine LinStep.yes fun vals γ w' ρ hR hN hp hρ hc hf hg => ⟨rfl, ?_⟩
      have HB := Lib.hid hR.inb0
      have HN := Lib.hid hN
      clear hR hN hp hρ t0 t1 t2
      go_light
      go_simp
      exact ⟨γ.put 6 (some w'.heap.size), LR.new (HN.out.2 ⟨7, rfl⟩) _ _, LN.made, VarAt.new HB.out rfl⟩
    · refine LinStep.yes fun vals γ w' ρ hR hN hp hρ hc hf hg => ⟨rfl, ?_⟩
      obtain ⟨Av, cv, Bv, ev, g4⟩ := hp 4 (by decide)
      have e20 : ρ (.tmp 26) = _ := (hρ 26).trans g4
      obtain ⟨g, hv, hcs, hk, hst⟩ := VarAt.store7 (hp 6 (by decide)) (s := 7) (al := al1 7 6) rfl hN
      have e2 : ρ (.tmp 4) = _ := (hρ 4).trans hv
      obtain ⟨⟨x0, x1, x2, x3, x4, x5, x6, k0, k1, k2, k3, k4, k5, k6⟩, kf, kz⟩ := blk7 hcs
      have HST := Lib.hid hst
      have HK := Lib.hid hk
      clear hR hN hp hρ t0 t1 t2 g4 hv hst hcs hk
      go_light
      go_simp
      exact ⟨γ.put 6 none, (HST.out _ _ _ _ _ _ _).1, LN.stored al1_inj rfl HK.out, Av, cv, Bv, ev, (HST.out _ _ _ _ _ _ _).2⟩
    · refine LinStep.yes fun vals γ w' ρ hR hN hp hρ hc hf hg => ⟨rfl, ?_⟩
      have e21 : ρ (.tmp 27) = _ := (hρ 27).trans (hp 5 (by decide))
      clear hR hN hp hρ t0 t1 t2
      go_light
      go_simp
      exact ⟨γ, LR.refl _ _, fun _ _ _ h => h, rfl⟩
    · intro vals γ w' hR hG
      obtain ⟨Av, cv, Bv, ev, g, hv, hb, -⟩ := hG 7 (by decide)
      have h8 : vals 8 = .int .i64 18 := hG 8 (by decide)
      have HX := Lib.hid hR.drew_ext
      have HB := Lib.hid hb
      clear hR hG hb
      simp only [lexFrame, Act.put, List.setIfInBounds_toArray, List.set_cons_succ, List.set_cons_zero, Nat.zero_add, Nat.reduceAdd, hv, h8]
      generalize vals 0 = u0, vals 1 = u1, vals 2 = u2, vals 3 = u3, vals 4 = u4, vals 5 = u5
      clear hv h8
      go_wp2_with fail
      go_meet
      case rel => exact ⟨g, Av, cv, Bv, ev, rfl, rfl, HX.out, HB.out⟩
  case rest =>
  obtain ⟨g2, Av2, cv2, Bv2, ev2, rfl, rfl, hx4, hb4⟩ := hcut
  obtain ⟨w4, rfl⟩ : ∃ w4, w4 = wc := ⟨_, rfl⟩
  have s0 := hx4.cell t0
  have s1 := hx4.cell t1
  have s2 := hx4.cell t2
  have HX4 := Lib.hid (HX3.out.trans hx4)
  have HB1 := Lib.hid (HB3.out.keep (hx4.kept _))
  have HRL4 := Lib.hid (HRL.out.keep (hx4.kept _))
  clear hx4 hb4 HX3 HB3 HRL t0 t1 t2
  go_wp2_with fail
  refine (table_Keys 1 citiesT.cols citiesT.rows A B c e _ (Fresh w) (Fresh w) HRL4.out.2.1 HRL4.out.2.2 (by decide)).mono ?_
  rintro e5 w5 ⟨Ak, ck, he, hck, hrk, hx5⟩
  rw [san_keys] at he hrk
  subst he
  have t0 := hx5.cell s0
  have t1 := hx5.cell s1
  have t2 := hx5.cell s2
  have HX5 := Lib.hid (HX4.out.trans hx5)
  have HB2 := Lib.hid (HB1.out.keep (hx5.kept _))
  have HRL5 := Lib.hid (HRL4.out.keep (hx5.kept _))
  have HRK := Lib.hid hrk
  clear hx5 hrk hck HX4 HB1 HRL4 s0 s1 s2
  go_upto_region 6 with fail
  obtain ⟨w6, hw6⟩ : ∃ w6, w6 = w5a w5 := ⟨_, rfl⟩
  have hx6 := w5a_ext w5
  have hd6 := w5a_mem w5
  rw [← hw6] at hx6 hd6
  unfold w5a sCity sZip sCountry at hw6
  rw [← hw6]
  clear hw6
  have s0 := hx6.cell t0
  have s1 := hx6.cell t1
  have s2 := hx6.cell t2
  have HX6 := Lib.hid (HX5.out.trans hx6)
  have HB3 := Lib.hid (HB2.out.keep (hx6.kept _))
  have HRL6 := Lib.hid (HRL5.out.keep (hx6.kept _))
  have HRK6 := Lib.hid (HRK.out.keep (hx6.kept _))
  have HRD6 := Lib.hid hd6
  clear hx6 hd6 HX5 HB2 HRL5 HRK t0 t1 t2
  go_wp2_with fail
  refine (table_Closure abD [sA] _ _ 2 1 _ _ _ (w6a_mem w6).1 (w6a_mem w6).2 (by decide)).mono ?_
  rintro e7 w7 ⟨ks, hks, A7, c7, he, hc7, hs7, hx7'⟩
  rw [san_clos hks] at he hs7
  subst he
  have hx7 := (w6a_ext w6).trans hx7'
  have t0 := hx7.cell s0
  have t1 := hx7.cell s1
  have t2 := hx7.cell s2
  have HX7 := Lib.hid (HX6.out.trans hx7)
  have HB4 := Lib.hid (HB3.out.keep (hx7.kept _))
  have HRL7 := Lib.hid (HRL6.out.keep (hx7.kept _))
  have HRK7 := Lib.hid (HRK6.out.keep (hx7.kept _))
  have HRD7 := Lib.hid (HRD6.out.keep (hx7.kept _))
  have HS7 := Lib.hid hs7
  clear hx7 hx7' hks ks hc7 hs7 HX6 HB3 HRL6 HRK6 HRD6 s0 s1 s2
  go_wp2_with fail
  refine (law_number _ _).mono ?_
  rintro e8 w8 ⟨rfl, hx8⟩
  have HX8 := Lib.hid hx8
  have hs8 := hx8.size
  clear hx8
  go_wp2_with fail
  refine (law_number _ _).mono ?_
  rintro e9 w9 ⟨rfl, hx9⟩
  have HX9 := Lib.hid hx9
  have hs9 := hx9.size
  clear hx9
  go_wp2_with fail
  refine (law_number _ _).mono ?_
  rintro e10 w10 ⟨rfl, hx10⟩
  have HX10 := Lib.hid hx10
  have hs10 := hx10.size
  clear hx10
  go_upto_region 8 with fail
  obtain ⟨w11, hw11⟩ : ∃ w11, w11 = ((w10.alloc (.cells #[.int .i64 (numV 4 0).kind, .string (numV 4 0).s, .int .i64 (numV 4 0).dn, .int .i64 (numV 4 0).ds, .int .i64 (numV 4 0).n, .slice none (numV 4 0).cols.length 0, .slice none (numV 4 0).rows.length 0] 33)).alloc (.cells #[.slice (some ⟨w8.heap.size, 0, none⟩) 1 1, .slice (some ⟨w9.heap.size, 0, none⟩) 1 1, .slice (some ⟨w10.heap.size, 0, none⟩) 1 1] 45)).alloc
    (.cells #[.int .i64 5, .string ⟨#[]⟩, .int .i64 0, .int .i64 0, .int .i64 0, .slice (some ⟨w7.heap.size, 0, none⟩) 1 1, .slice (some ⟨w10.heap.size + 1, 0, none⟩) 3 3] 33) := ⟨_, rfl⟩
  have x10 : Ext w7 w10 := (((Ext.refl w7).alloc _).trans HX8.out).trans ((((Ext.refl _).alloc _).trans HX9.out).trans (((Ext.refl _).alloc _).trans HX10.out))
  have hb11 : Blk w11 (w10.heap.size + 1 + 1) 33 #[.int .i64 5, .string ⟨#[]⟩, .int .i64 0, .int .i64 0, .int .i64 0, .slice (some ⟨w7.heap.size, 0, none⟩) 1 1, .slice (some ⟨w10.heap.size + 1, 0, none⟩) 3 3] := by rw [hw11]; exact blk_at _ _ _ (by simp)
  have hm11 : RV w11 (fun _ => True) 1 nV (some ⟨w7.heap.size, 0, none⟩) (some ⟨w10.heap.size + 1, 0, none⟩) := by
    rw [hw11]
    exact (nV_mem (S := fun _ => True) (v := w10) ((((Blk.new w7 9 #[.string sN]).keep (HX8.out.kept _)).keep ((((Ext.refl _).alloc _).trans HX9.out).kept _)).keep ((((Ext.refl _).alloc _).trans HX10.out).kept _))
      (((Blk.new w8 33 (rowC [numV 3 0])).keep (HX9.out.kept _)).keep ((((Ext.refl _).alloc _).trans HX10.out).kept _)) ((Blk.new w9 33 (rowC [numV (-5) 0])).keep (HX10.out.kept _)) trivial trivial trivial trivial trivial).keep (Kept.alloc _ _ _)
  have hx11 : Ext w7 w11 := by rw [hw11]; exact ((x10.alloc _).alloc _).alloc _
  rw [← hw11]
  clear hw11 x10 HX8 HX9 HX10 hs8 hs9 hs10
  have s0 := hx11.cell t0
  have s1 := hx11.cell t1
  have s2 := hx11.cell t2
  have HX11 := Lib.hid (HX7.out.trans hx11)
  have HB5 := Lib.hid (HB4.out.keep (hx11.kept _))
  have HRL11 := Lib.hid (HRL7.out.keep (hx11.kept _))
  have HRK11 := Lib.hid (HRK7.out.keep (hx11.kept _))
  have HRD11 := Lib.hid (HRD7.out.keep (hx11.kept _))
  have HS11 := Lib.hid (HS7.out.keep (hx11.kept _))
  have HN11 := Lib.hid hm11
  have HNB := Lib.hid hb11
  have n0 := hb11.cell (i := 0) rfl
  have n1 := hb11.cell (i := 1) rfl
  have n2 := hb11.cell (i := 2) rfl
  have n3 := hb11.cell (i := 3) rfl
  have n4 := hb11.cell (i := 4) rfl
  have n5 := hb11.cell (i := 5) rfl
  have n6 := hb11.cell (i := 6) rfl
  clear hx11 hb11 hm11 HX7 HB4 HRL7 HRK7 HRD7 HS7 t0 t1 t2
  go_wp2_with fail
  refine (table_Sum 1 nV sN (-2) 0 _ _ 1 3 _ (fun _ => True) HN11.out (by decide) (HT.out.ext HX11.out)).mono ?_
  rintro e12 w12 ⟨As, cs, Bs, es, he, -, -, hx12⟩
  rw [san_sum1] at he
  have he2 : e12 = .returned (.tuple #[(.agg #[.int .i64 twoV.kind, .string twoV.s, .int .i64 twoV.dn, .int .i64 twoV.ds, .int .i64 twoV.n, .slice As twoV.cols.length cs, .slice Bs twoV.rows.length es]), .int .i64 0]) := he
  clear he
  subst he2
  clear HNB
  have HX12 := Lib.hid (HX11.out.trans hx12)
  have c120 := hx12.cell s0
  have c121 := hx12.cell s1
  have c122 := hx12.cell s2
  have K120 := Lib.hid (HB5.out.keep (hx12.kept _))
  have K121 := Lib.hid (HRL11.out.keep (hx12.kept _))
  have K122 := Lib.hid (HRK11.out.keep (hx12.kept _))
  have K123 := Lib.hid (HRD11.out.keep (hx12.kept _))
  have K124 := Lib.hid (HS11.out.keep (hx12.kept _))
  have K125 := Lib.hid (HN11.out.keep (hx12.kept _))
  have n120 := hx12.cell n0
  have n121 := hx12.cell n1
  have n122 := hx12.cell n2
  have n123 := hx12.cell n3
  have n124 := hx12.cell n4
  have n125 := hx12.cell n5
  have n126 := hx12.cell n6
  clear hx12 HX11 HB5 HRL11 HRK11 HRD11 HS11 HN11 s0 s1 s2 n0 n1 n2 n3 n4 n5 n6
  go_upto_region 9 with fail
  obtain ⟨w13, hw13⟩ : ∃ w13, w13 = w12.alloc (.cells #[.int .i64 twoV.kind, .string twoV.s, .int .i64 twoV.dn, .int .i64 twoV.ds, .int .i64 twoV.n, .slice As twoV.cols.length cs, .slice Bs twoV.rows.length es] 33) := ⟨_, rfl⟩
  have hx13 : Ext w12 w13 := by rw [hw13]; exact (Ext.refl _).alloc _
  have HB13 := Lib.hid (show Blk w13 w12.heap.size 33 #[.int .i64 twoV.kind, .string twoV.s, .int .i64 twoV.dn, .int .i64 twoV.ds, .int .i64 twoV.n, .slice As twoV.cols.length cs, .slice Bs twoV.rows.length es] by rw [hw13]; exact Blk.new _ _ _)
  rw [← hw13]
  clear hw13
  have HX13 := Lib.hid (HX12.out.trans hx13)
  have c130 := hx13.cell c120
  have c131 := hx13.cell c121
  have c132 := hx13.cell c122
  have K130 := Lib.hid (K120.out.keep (hx13.kept _))
  have K131 := Lib.hid (K121.out.keep (hx13.kept _))
  have K132 := Lib.hid (K122.out.keep (hx13.kept _))
  have K133 := Lib.hid (K123.out.keep (hx13.kept _))
  have K134 := Lib.hid (K124.out.keep (hx13.kept _))
  have K135 := Lib.hid (K125.out.keep (hx13.kept _))
  have n130 := hx13.cell n120
  have n131 := hx13.cell n121
  have n132 := hx13.cell n122
  have n133 := hx13.cell n123
  have n134 := hx13.cell n124
  have n135 := hx13.cell n125
  have n136 := hx13.cell n126
  clear hx13 HX12 K120 K121 K122 K123 K124 K125 c120 c121 c122 n120 n121 n122 n123 n124 n125 n126
  go_wp2_with fail
  refine (table_Sum 1 nV sN 0 0 _ _ 1 3 _ (fun _ => True) K135.out (by decide) (HT.out.ext HX13.out)).mono ?_
  rintro e14 w14 ⟨As', cs', Bs', es', he, -, -, hx14⟩
  rw [san_sum2] at he
  have he2 : e14 = .returned (.tuple #[(.agg #[.int .i64 Val.zero.kind, .string Val.zero.s, .int .i64 Val.zero.dn, .int .i64 Val.zero.ds, .int .i64 Val.zero.n, .slice As' Val.zero.cols.length cs', .slice Bs' Val.zero.rows.length es']), .int .i64 20]) := he
  clear he
  subst he2
  have HB14 := Lib.hid (HB13.out.keep (hx14.kept _))
  clear HB13
  have HX14 := Lib.hid (HX13.out.trans hx14)
  have c140 := hx14.cell c130
  have c141 := hx14.cell c131
  have c142 := hx14.cell c132
  have K140 := Lib.hid (K130.out.keep (hx14.kept _))
  have K141 := Lib.hid (K131.out.keep (hx14.kept _))
  have K142 := Lib.hid (K132.out.keep (hx14.kept _))
  have K143 := Lib.hid (K133.out.keep (hx14.kept _))
  have K144 := Lib.hid (K134.out.keep (hx14.kept _))
  have K145 := Lib.hid (K135.out.keep (hx14.kept _))
  have n140 := hx14.cell n130
  have n141 := hx14.cell n131
  have n142 := hx14.cell n132
  have n143 := hx14.cell n133
  have n144 := hx14.cell n134
  have n145 := hx14.cell n135
  have n146 := hx14.cell n136
  clear hx14 HX13 K130 K131 K132 K133 K134 K135 c130 c131 c132 n130 n131 n132 n133 n134 n135 n136
  clear n140 n141 n142 n143 n144 n145 n146
  go_upto_region 10 with fail
  obtain ⟨w15, hw15⟩ : ∃ w15, w15 = w14.alloc (.cells #[.int .i64 Val.zero.kind, .string Val.zero.s, .int .i64 Val.zero.dn, .int .i64 Val.zero.ds, .int .i64 Val.zero.n, .slice As' Val.zero.cols.length cs', .slice Bs' Val.zero.rows.length es'] 33) := ⟨_, rfl⟩
  have hx15 : Ext w14 w15 := by rw [hw15]; exact (Ext.refl _).alloc _
  rw [← hw15]
  clear hw15
  have HB15 := Lib.hid (HB14.out.keep (hx15.kept _))
  clear HB14
  have HX15 := Lib.hid (HX14.out.trans hx15)
  have c150 := hx15.cell c140
  have c151 := hx15.cell c141
  have c152 := hx15.cell c142
  have K150 := Lib.hid (K140.out.keep (hx15.kept _))
  have K151 := Lib.hid (K141.out.keep (hx15.kept _))
  have K152 := Lib.hid (K142.out.keep (hx15.kept _))
  have K153 := Lib.hid (K143.out.keep (hx15.kept _))
  have K154 := Lib.hid (K144.out.keep (hx15.kept _))
  have K155 := Lib.hid (K145.out.keep (hx15.kept _))
  clear hx15 HX14 K140 K141 K142 K143 K144 K145 c140 c141 c142
  go_wp2_with fail
  refine (table_Holds 1 citiesT.cols citiesT.rows [sCountry] sZip A B _ c e 1 _ (Fresh w) (Fresh w) (fun _ => True) (K151.out.2.1.keep (Kept.alloc _ _ _)) (K151.out.2.2.keep (Kept.alloc _ _ _)) (Strs.one (Blk.new w15 9 #[.string sCountry]) (by decide) trivial)).mono ?_
  rintro e16 w16 ⟨he, hx16'⟩
  rw [san_hold1] at he
  subst he
  have hx16 := ((Ext.refl w15).alloc _).trans hx16'
  clear hx16'
  have HB16 := Lib.hid (HB15.out.keep (hx16.kept _))
  clear HB15
  have HX16 := Lib.hid (HX15.out.trans hx16)
  have c160 := hx16.cell c150
  have c161 := hx16.cell c151
  have c162 := hx16.cell c152
  have K160 := Lib.hid (K150.out.keep (hx16.kept _))
  have K161 := Lib.hid (K151.out.keep (hx16.kept _))
  have K162 := Lib.hid (K152.out.keep (hx16.kept _))
  have K163 := Lib.hid (K153.out.keep (hx16.kept _))
  have K164 := Lib.hid (K154.out.keep (hx16.kept _))
  have K165 := Lib.hid (K155.out.keep (hx16.kept _))
  clear hx16 HX15 K150 K151 K152 K153 K154 K155 c150 c151 c152
  go_wp2_with fail
  refine (table_Holds 1 citiesT.cols citiesT.rows [sCity] sCountry A B _ c e 1 _ (Fresh w) (Fresh w) (fun _ => True) (K161.out.2.1.keep (Kept.alloc _ _ _)) (K161.out.2.2.keep (Kept.alloc _ _ _)) (Strs.one (Blk.new w16 9 #[.string sCity]) (by decide) trivial)).mono ?_
  rintro e17 w17 ⟨he, hx17'⟩
  rw [san_hold2] at he
  subst he
  have hx17 := ((Ext.refl w16).alloc _).trans hx17'
  clear hx17'
  have HB17 := Lib.hid (HB16.out.keep (hx17.kept _))
  clear HB16
  have HX17 := Lib.hid (HX16.out.trans hx17)
  have c170 := hx17.cell c160
  have c171 := hx17.cell c161
  have c172 := hx17.cell c162
  have K170 := Lib.hid (K160.out.keep (hx17.kept _))
  have K171 := Lib.hid (K161.out.keep (hx17.kept _))
  have K172 := Lib.hid (K162.out.keep (hx17.kept _))
  have K173 := Lib.hid (K163.out.keep (hx17.kept _))
  have K174 := Lib.hid (K164.out.keep (hx17.kept _))
  have K175 := Lib.hid (K165.out.keep (hx17.kept _))
  clear hx17 HX16 K160 K161 K162 K163 K164 K165 c160 c161 c162
  go_upto_region 11 with fail
  refine wp_region_lin_lit (by kernel_rfl) dSan (by kernel_rfl) LR LR.refl LR.trans (LN al0) (gSan A c B e Av cv Bv ev Ak ck w5 A7 c7 As cs Bs es) (gSan_st _ _ _ _ _ _ _ _ _ _ _ _ _ _ _ _ _) gh0 (LN.zero _) ⟨?_, ?_, ?_, ?_, ?_, ?_, ?_, ?_, ?_, ?_, ?_, ?_, ?_, ?_, ?_, ?_, ?_, ?_, ?_, ?_, ?_, ?_, ?_, ?_, ?_, ?_, ?_, ?_, ?_, ?_, ?_, ?_, ?_, ?_, ?_, ?_, ?_, ?_, ?_, ?_, ?_, ?_, trivial⟩ ?_
  · refine LinStep.yes fun vals γ w' ρ hR hN hp hρ hc hf hg => ⟨rfl, ?_⟩
    have hx := hR.drew_ext
    have c0 := hx.cell c170
    have c1 := hx.cell c171
    have c2 := hx.cell c172
    have e1 : ρ (.tmp 1) = .pointer (some ⟨w1.heap.size, 0, none⟩) := hρ 1
    clear hx
    have HR := Lib.hid hR
    clear hR hN hp hρ c170 c171 c172
    go_light
    go_simp
    exact ⟨γ, LR.refl _ _, fun _ _ _ h => h, rfl⟩
  · refine LinStep.yes fun vals γ w' ρ hR hN hp hρ hc hf hg => ⟨rfl, ?_⟩
    have e87 : ρ (.tmp 87) = (.agg #[.string citiesT.name, .slice A citiesT.cols.length c, .slice B citiesT.rows.length e]) := (hρ 87).trans (hp 0 (by decide))
    have HR := Lib.hid hR
    clear hR hN hp hρ c170 c171 c172
    go_light
    go_simp
    refine (table_Right 1 citiesT A B c e _ (Fresh w) (K171.out.keep (HR.out.drew_ext.kept _)) HCP1.out).mono ?_
    rintro e' w3 ⟨he, hx⟩
    rw [san_right] at he
    exact ⟨_, he, γ, LR.of_ext γ hx, fun _ _ _ h => h, rfl⟩
  · refine LinStep.yes fun vals γ w' ρ hR hN hp hρ hc hf hg => ⟨rfl, ?_⟩
    have e88 : ρ (.tmp 88) = .bool true := (hρ 88).trans (hp 1 (by decide))
    have HR := Lib.hid hR
    clear hR hN hp hρ c170 c171 c172
    go_light
    go_simp
    exact ⟨γ, LR.refl _ _, fun _ _ _ h => h, rfl⟩
  · refine LinStep.yes fun vals γ w' ρ hR hN hp hρ hc hf hg => ⟨by show (boolOf (vals 2) == some true) = true; rw [show vals 2 = .bool true from hp 2 (by decide)]; rfl, ?_⟩
    have e3 : ρ (.tmp 3) = .int .i64 0 := hρ 3
    have HR := Lib.hid hR
    clear hR hN hp hρ c170 c171 c172
    go_light
    go_simp
    exact ⟨γ, LR.refl _ _, fun _ _ _ h => h, rfl⟩
  · refine LinStep.yes fun vals γ w' ρ hR hN hp hρ hc hf hg => ⟨by show (boolOf (vals 2) == some true) = true; rw [show vals 2 = .bool true from hp 2 (by decide)]; rfl, ?_⟩
    have e90 : ρ (.tmp 90) = .int .i64 0 := (hρ 90).trans (hp 3 (by decide))
    have HR := Lib.hid hR
    clear hR hN hp hρ c170 c171 c172
    go_light
    go_simp
    exact ⟨γ, LR.refl _ _, fun _ _ _ h => h, rfl⟩
  · refine LinStep.yes fun vals γ w' ρ hR hN hp hρ hc hf hg => ⟨rfl, ?_⟩
    have e89 : ρ (.tmp 89) = .bool true := (hρ 89).trans (hp 2 (by decide))
    have e91 : ρ (.tmp 91) = .bool true := (hρ 91).trans (hp 4 (by decide))
    have HR := Lib.hid hR
    clear hR hN hp hρ c170 c171 c172
    go_light
    go_simp
    exact ⟨γ, LR.refl _ _, fun _ _ _ h => h, rfl⟩
  · refine LinStep.yes fun vals γ w' ρ hR hN hp hρ hc hf hg => ⟨rfl, ?_⟩
    have e92 : ρ (.tmp 92) = .bool true := (hρ 92).trans (hp 5 (by decide))
    have HR := Lib.hid hR
    clear hR hN hp hρ c170 c171 c172
    go_light
    go_simp
    exact ⟨γ, LR.refl _ _, fun _ _ _ h => h, rfl⟩
  · refine LinStep.yes fun vals γ w' ρ hR hN hp hρ hc hf hg => ⟨by show (boolOf (vals 6) == some true) = true; rw [show vals 6 = .bool true from hp 6 (by decide)]; rfl, ?_⟩
    have e2 : ρ (.tmp 2) = .pointer (some ⟨g1, 0, none⟩) := hρ 2
    have hb := (K170.out).keep (hR.drew_ext.kept _)
    have k0 := hb.cell (i := 0) rfl
    have k1 := hb.cell (i := 1) rfl
    have k2 := hb.cell (i := 2) rfl
    have k3 := hb.cell (i := 3) rfl
    have k4 := hb.cell (i := 4) rfl
    have k5 := hb.cell (i := 5) rfl
    have k6 := hb.cell (i := 6) rfl
    clear hb
    have HR := Lib.hid hR
    clear hR hN hp hρ c170 c171 c172
    go_light
    go_simp
    exact ⟨γ, LR.refl _ _, fun _ _ _ h => h, rfl⟩
  · refine LinStep.yes fun vals γ w' ρ hR hN hp hρ hc hf hg => ⟨by show (boolOf (vals 6) == some true) = true; rw [show vals 6 = .bool true from hp 6 (by decide)]; rfl, ?_⟩
    have HR := Lib.hid hR
    clear hR hN hp hρ c170 c171 c172
    go_light
    go_simp
    exact (law_text _ _).mono fun e' w3 ⟨he, hx⟩ => ⟨_, he, γ, LR.of_ext γ hx, fun _ _ _ h => h, rfl⟩
  · refine LinStep.yes fun vals γ w' ρ hR hN hp hρ hc hf hg => ⟨by show (boolOf (vals 6) == some true) = true; rw [show vals 6 = .bool true from hp 6 (by decide)]; rfl, ?_⟩
    have e94 : ρ (.tmp 94) = (.agg #[.int .i64 noV.kind, .string noV.s, .int .i64 noV.dn, .int .i64 noV.ds, .int .i64 noV.n, .slice Av noV.cols.length cv, .slice Bv noV.rows.length ev]) := (hρ 94).trans (hp 7 (by decide))
    have e95 : ρ (.tmp 95) = (.agg #[.int .i64 noV.kind, .string noV.s, .int .i64 noV.dn, .int .i64 noV.ds, .int .i64 noV.n, .slice none noV.cols.length 0, .slice none noV.rows.length 0]) := (hρ 95).trans (hp 8 (by decide))
    have HR := Lib.hid hR
    clear hR hN hp hρ c170 c171 c172
    go_light
    go_simp
    refine (r06_Equal 1 noV noV Av Bv none none cv ev 0 0 _ (Fresh w) (Fresh w) (RV.flat (flat_text _ (by decide))) (RV.flat (flat_text _ (by decide)))).mono ?_
    rintro e' w3 ⟨he, hx⟩
    rw [decide_eq_true rfl] at he
    exact ⟨_, he, γ, LR.of_ext γ hx, fun _ _ _ h => h, rfl⟩
  · refine LinStep.yes fun vals γ w' ρ hR hN hp hρ hc hf hg => ⟨rfl, ?_⟩
    have e93 : ρ (.tmp 93) = .bool true := (hρ 93).trans (hp 6 (by decide))
    have e96 : ρ (.tmp 96) = .bool true := (hρ 96).trans (hp 9 (by decide))
    have HR := Lib.hid hR
    clear hR hN hp hρ c170 c171 c172
    go_light
    go_simp
    exact ⟨γ, LR.refl _ _, fun _ _ _ h => h, rfl⟩
  · refine LinStep.yes fun vals γ w' ρ hR hN hp hρ hc hf hg => ⟨rfl, ?_⟩
    have e97 : ρ (.tmp 97) = .bool true := (hρ 97).trans (hp 10 (by decide))
    have HR := Lib.hid hR
    clear hR hN hp hρ c170 c171 c172
    go_light
    go_simp
    exact ⟨γ, LR.refl _ _, fun _ _ _ h => h, rfl⟩
  · refine LinStep.yes fun vals γ w' ρ hR hN hp hρ hc hf hg => ⟨by show (boolOf (vals 11) == some true) = true; rw [show vals 11 = .bool true from hp 11 (by decide)]; rfl, ?_⟩
    have e5 : ρ (.tmp 5) = .int .i64 18 := hρ 5
    have HR := Lib.hid hR
    clear hR hN hp hρ c170 c171 c172
    go_light
    go_simp
    exact ⟨γ, LR.refl _ _, fun _ _ _ h => h, rfl⟩
  · refine LinStep.yes fun vals γ w' ρ hR hN hp hρ hc hf hg => ⟨by show (boolOf (vals 11) == some true) = true; rw [show vals 11 = .bool true from hp 11 (by decide)]; rfl, ?_⟩
    have e99 : ρ (.tmp 99) = .int .i64 18 := (hρ 99).trans (hp 12 (by decide))
    have HR := Lib.hid hR
    clear hR hN hp hρ c170 c171 c172
    go_light
    go_simp
    exact ⟨γ, LR.refl _ _, fun _ _ _ h => h, rfl⟩
  · refine LinStep.yes fun vals γ w' ρ hR hN hp hρ hc hf hg => ⟨rfl, ?_⟩
    have e98 : ρ (.tmp 98) = .bool true := (hρ 98).trans (hp 11 (by decide))
    have e100 : ρ (.tmp 100) = .bool true := (hρ 100).trans (hp 13 (by decide))
    have HR := Lib.hid hR
    clear hR hN hp hρ c170 c171 c172
    go_light
    go_simp
    exact ⟨γ, LR.refl _ _, fun _ _ _ h => h, rfl⟩
  · refine LinStep.yes fun vals γ w' ρ hR hN hp hρ hc hf hg => ⟨rfl, ?_⟩
    have e101 : ρ (.tmp 101) = .bool true := (hρ 101).trans (hp 14 (by decide))
    have HR := Lib.hid hR
    clear hR hN hp hρ c170 c171 c172
    go_light
    go_simp
    exact ⟨γ, LR.refl _ _, fun _ _ _ h => h, rfl⟩
  · refine LinStep.yes fun vals γ w' ρ hR hN hp hρ hc hf hg => ⟨by show (boolOf (vals 15) == some true) = true; rw [show vals 15 = .bool true from hp 15 (by decide)]; rfl, ?_⟩
    have e6 : ρ (.tmp 6) = .slice Ak wantD.length ck := hρ 6
    have HR := Lib.hid hR
    clear hR hN hp hρ c170 c171 c172
    go_light
    go_simp
    exact ⟨γ, LR.refl _ _, fun _ _ _ h => h, rfl⟩
  · refine LinStep.yes fun vals γ w' ρ hR hN hp hρ hc hf hg => ⟨by show (boolOf (vals 15) == some true) = true; rw [show vals 15 = .bool true from hp 15 (by decide)]; rfl, ?_⟩
    have e7 : ρ (.tmp 7) = .slice (some ⟨w5.heap.size + 1 + 1 + 1 + 1, 0, none⟩) 4 4 := hρ 7
    have HR := Lib.hid hR
    clear hR hN hp hρ c170 c171 c172
    go_light
    go_simp
    exact ⟨γ, LR.refl _ _, fun _ _ _ h => h, rfl⟩
  · refine LinStep.yes fun vals γ w' ρ hR hN hp hρ hc hf hg => ⟨by show (boolOf (vals 15) == some true) = true; rw [show vals 15 = .bool true from hp 15 (by decide)]; rfl, ?_⟩
    have e103 : ρ (.tmp 103) = .slice Ak wantD.length ck := (hρ 103).trans (hp 16 (by decide))
    have e104 : ρ (.tmp 104) = .slice (some ⟨w5.heap.size + 1 + 1 + 1 + 1, 0, none⟩) 4 4 := (hρ 104).trans (hp 17 (by decide))
    have HR := Lib.hid hR
    clear hR hN hp hρ c170 c171 c172
    go_light
    go_simp
    refine (r09_Deps wantD Ak _ ck 4 _ _ _ (K172.out.keep (HR.out.drew_ext.kept _)) (K173.out.keep (HR.out.drew_ext.kept _))).mono ?_
    rintro e' w3 ⟨he, n, rfl⟩
    exact ⟨_, he, γ, LR.of_ext γ ((Ext.refl _).drewN n), fun _ _ _ h => h, rfl⟩
  · refine LinStep.yes fun vals γ w' ρ hR hN hp hρ hc hf hg => ⟨rfl, ?_⟩
    have e102 : ρ (.tmp 102) = .bool true := (hρ 102).trans (hp 15 (by decide))
    have e105 : ρ (.tmp 105) = .bool true := (hρ 105).trans (hp 18 (by decide))
    have HR := Lib.hid hR
    clear hR hN hp hρ c170 c171 c172
    go_light
    go_simp
    exact ⟨γ, LR.refl _ _, fun _ _ _ h => h, rfl⟩
  · refine LinStep.yes fun vals γ w' ρ hR hN hp hρ hc hf hg => ⟨rfl, ?_⟩
    have e106 : ρ (.tmp 106) = .bool true := (hρ 106).trans (hp 19 (by decide))
    have HR := Lib.hid hR
    clear hR hN hp hρ c170 c171 c172
    go_light
    go_simp
    exact ⟨γ, LR.refl _ _, fun _ _ _ h => h, rfl⟩
  · refine LinStep.yes fun vals γ w' ρ hR hN hp hρ hc hf hg => ⟨by show (boolOf (vals 20) == some true) = true; rw [show vals 20 = .bool true from hp 20 (by decide)]; rfl, ?_⟩
    have e14 : ρ (.tmp 14) = .bool true := hρ 14
    have HR := Lib.hid hR
    clear hR hN hp hρ c170 c171 c172
    go_light
    go_simp
    exact ⟨γ, LR.refl _ _, fun _ _ _ h => h, rfl⟩
  · refine LinStep.yes fun vals γ w' ρ hR hN hp hρ hc hf hg => ⟨rfl, ?_⟩
    have e107 : ρ (.tmp 107) = .bool true := (hρ 107).trans (hp 20 (by decide))
    have e108 : ρ (.tmp 108) = .bool true := (hρ 108).trans (hp 21 (by decide))
    have HR := Lib.hid hR
    clear hR hN hp hρ c170 c171 c172
    go_light
    go_simp
    exact ⟨γ, LR.refl _ _, fun _ _ _ h => h, rfl⟩
  · refine LinStep.yes fun vals γ w' ρ hR hN hp hρ hc hf hg => ⟨rfl, ?_⟩
    have e109 : ρ (.tmp 109) = .bool true := (hρ 109).trans (hp 22 (by decide))
    have HR := Lib.hid hR
    clear hR hN hp hρ c170 c171 c172
    go_light
    go_simp
    exact ⟨γ, LR.refl _ _, fun _ _ _ h => h, rfl⟩
  · refine LinStep.yes fun vals γ w' ρ hR hN hp hρ hc hf hg => ⟨by show (boolOf (vals 23) == some true) = true; rw [show vals 23 = .bool true from hp 23 (by decide)]; rfl, ?_⟩
    have e8 : ρ (.tmp 8) = .slice A7 3 c7 := hρ 8
    have HR := Lib.hid hR
    clear hR hN hp hρ c170 c171 c172
    go_light
    go_simp
    exact ⟨γ, LR.refl _ _, fun _ _ _ h => h, rfl⟩
  · refine LinStep.yes fun vals γ w' ρ hR hN hp hρ hc hf hg => ⟨by show (boolOf (vals 23) == some true) = true; rw [show vals 23 = .bool true from hp 23 (by decide)]; rfl, ?_⟩
    have HR := Lib.hid hR
    clear hR hN hp hρ c170 c171 c172
    go_light
    go_simp
    refine ⟨γ, LR.of_ext γ ((Ext.refl _).alloc _), fun _ _ _ h => h, _, rfl, ?_⟩
    refine (Strs.of_blk (Blk.new w' 9 #[.string sA, .string sB, .string sC]) rfl (by decide) (by decide)).mono fun b _ hb => ?_
    rintro ⟨k, hk⟩
    have := HR.out.inb0 k b hk
    omega
  · refine LinStep.yes fun vals γ w' ρ hR hN hp hρ hc hf hg => ⟨by show (boolOf (vals 23) == some true) = true; rw [show vals 23 = .bool true from hp 23 (by decide)]; rfl, ?_⟩
    have e111 : ρ (.tmp 111) = .slice A7 3 c7 := (hρ 111).trans (hp 24 (by decide))
    obtain ⟨gb, hv25, hs25⟩ := hp 25 (by decide)
    have e112 : ρ (.tmp 112) = _ := (hρ 112).trans hv25
    have HS25 := Lib.hid hs25
    clear hv25 hs25
    have HR := Lib.hid hR
    clear hR hN hp hρ c170 c171 c172
    go_light
    go_simp
    refine (r06_StringsSame A7 _ c7 3 [sA, sB, sC] _ _ _ (K174.out.keep (HR.out.drew_ext.kept _)) HS25.out).mono ?_
    rintro e' w3 ⟨he, n, rfl⟩
    exact ⟨_, he, γ, LR.of_ext γ ((Ext.refl _).drewN n), fun _ _ _ h => h, rfl⟩
  · refine LinStep.yes fun vals γ w' ρ hR hN hp hρ hc hf hg => ⟨rfl, ?_⟩
    have e110 : ρ (.tmp 110) = .bool true := (hρ 110).trans (hp 23 (by decide))
    have e113 : ρ (.tmp 113) = .bool true := (hρ 113).trans (hp 26 (by decide))
    have HR := Lib.hid hR
    clear hR hN hp hρ c170 c171 c172
    go_light
    go_simp
    exact ⟨γ, LR.refl _ _, fun _ _ _ h => h, rfl⟩
  · refine LinStep.yes fun vals γ w' ρ hR hN hp hρ hc hf hg => ⟨rfl, ?_⟩
    have e114 : ρ (.tmp 114) = .bool true := (hρ 114).trans (hp 27 (by decide))
    have HR := Lib.hid hR
    clear hR hN hp hρ c170 c171 c172
    go_light
    go_simp
    exact ⟨γ, LR.refl _ _, fun _ _ _ h => h, rfl⟩
  · refine LinStep.yes fun vals γ w' ρ hR hN hp hρ hc hf hg => ⟨by show (boolOf (vals 28) == some true) = true; rw [show vals 28 = .bool true from hp 28 (by decide)]; rfl, ?_⟩
    have e11 : ρ (.tmp 11) = .int .i64 0 := hρ 11
    have HR := Lib.hid hR
    clear hR hN hp hρ c170 c171 c172
    go_light
    go_simp
    exact ⟨γ, LR.refl _ _, fun _ _ _ h => h, rfl⟩
  · refine LinStep.yes fun vals γ w' ρ hR hN hp hρ hc hf hg => ⟨by show (boolOf (vals 28) == some true) = true; rw [show vals 28 = .bool true from hp 28 (by decide)]; rfl, ?_⟩
    have e116 : ρ (.tmp 116) = .int .i64 0 := (hρ 116).trans (hp 29 (by decide))
    have HR := Lib.hid hR
    clear hR hN hp hρ c170 c171 c172
    go_light
    go_simp
    exact ⟨γ, LR.refl _ _, fun _ _ _ h => h, rfl⟩
  · refine LinStep.yes fun vals γ w' ρ hR hN hp hρ hc hf hg => ⟨rfl, ?_⟩
    have e115 : ρ (.tmp 115) = .bool true := (hρ 115).trans (hp 28 (by decide))
    have e117 : ρ (.tmp 117) = .bool true := (hρ 117).trans (hp 30 (by decide))
    have HR := Lib.hid hR
    clear hR hN hp hρ c170 c171 c172
    go_light
    go_simp
    exact ⟨γ, LR.refl _ _, fun _ _ _ h => h, rfl⟩
  · refine LinStep.yes fun vals γ w' ρ hR hN hp hρ hc hf hg => ⟨rfl, ?_⟩
    have e118 : ρ (.tmp 118) = .bool true := (hρ 118).trans (hp 31 (by decide))
    have HR := Lib.hid hR
    clear hR hN hp hρ c170 c171 c172
    go_light
    go_simp
    exact ⟨γ, LR.refl _ _, fun _ _ _ h => h, rfl⟩
  · refine LinStep.yes fun vals γ w' ρ hR hN hp hρ hc hf hg => ⟨by show (boolOf (vals 32) == some true) = true; rw [show vals 32 = .bool true from hp 32 (by decide)]; rfl, ?_⟩
    have e10 : ρ (.tmp 10) = .pointer (some ⟨w12.heap.size, 0, none⟩) := hρ 10
    have hb := (HB17.out).keep (hR.drew_ext.kept _)
    have k0 := hb.cell (i := 0) rfl
    have k1 := hb.cell (i := 1) rfl
    have k2 := hb.cell (i := 2) rfl
    have k3 := hb.cell (i := 3) rfl
    have k4 := hb.cell (i := 4) rfl
    have k5 := hb.cell (i := 5) rfl
    have k6 := hb.cell (i := 6) rfl
    clear hb
    have HR := Lib.hid hR
    clear hR hN hp hρ c170 c171 c172
    go_light
    go_simp
    exact ⟨γ, LR.refl _ _, fun _ _ _ h => h, rfl⟩
  · refine LinStep.yes fun vals γ w' ρ hR hN hp hρ hc hf hg => ⟨by show (boolOf (vals 32) == some true) = true; rw [show vals 32 = .bool true from hp 32 (by decide)]; rfl, ?_⟩
    have HR := Lib.hid hR
    clear hR hN hp hρ c170 c171 c172
    go_light
    go_simp
    exact (law_number _ _).mono fun e' w3 ⟨he, hx⟩ => ⟨_, he, γ, LR.of_ext γ hx, fun _ _ _ h => h, rfl⟩
  · refine LinStep.yes fun vals γ w' ρ hR hN hp hρ hc hf hg => ⟨by show (boolOf (vals 32) == some true) = true; rw [show vals 32 = .bool true from hp 32 (by decide)]; rfl, ?_⟩
    have e120 : ρ (.tmp 120) = (.agg #[.int .i64 twoV.kind, .string twoV.s, .int .i64 twoV.dn, .int .i64 twoV.ds, .int .i64 twoV.n, .slice As twoV.cols.length cs, .slice Bs twoV.rows.length es]) := (hρ 120).trans (hp 33 (by decide))
    have e121 : ρ (.tmp 121) = (.agg #[.int .i64 twoV.kind, .string twoV.s, .int .i64 twoV.dn, .int .i64 twoV.ds, .int .i64 twoV.n, .slice none twoV.cols.length 0, .slice none twoV.rows.length 0]) := (hρ 121).trans (hp 34 (by decide))
    have HR := Lib.hid hR
    clear hR hN hp hρ c170 c171 c172
    go_light
    go_simp
    refine (r06_Equal 1 twoV twoV As Bs none none cs es 0 0 _ (Fresh w) (Fresh w) (RV.flat (flat_num _ _)) (RV.flat (flat_num _ _))).mono ?_
    rintro e' w3 ⟨he, hx⟩
    rw [decide_eq_true rfl] at he
    exact ⟨_, he, γ, LR.of_ext γ hx, fun _ _ _ h => h, rfl⟩
  · refine LinStep.yes fun vals γ w' ρ hR hN hp hρ hc hf hg => ⟨rfl, ?_⟩
    have e119 : ρ (.tmp 119) = .bool true := (hρ 119).trans (hp 32 (by decide))
    have e122 : ρ (.tmp 122) = .bool true := (hρ 122).trans (hp 35 (by decide))
    have HR := Lib.hid hR
    clear hR hN hp hρ c170 c171 c172
    go_light
    go_simp
    exact ⟨γ, LR.refl _ _, fun _ _ _ h => h, rfl⟩
  · refine LinStep.yes fun vals γ w' ρ hR hN hp hρ hc hf hg => ⟨rfl, ?_⟩
    have e123 : ρ (.tmp 123) = .bool true := (hρ 123).trans (hp 36 (by decide))
    have HR := Lib.hid hR
    clear hR hN hp hρ c170 c171 c172
    go_light
    go_simp
    exact ⟨γ, LR.refl _ _, fun _ _ _ h => h, rfl⟩
  · refine LinStep.yes fun vals γ w' ρ hR hN hp hρ hc hf hg => ⟨by show (boolOf (vals 37) == some true) = true; rw [show vals 37 = .bool true from hp 37 (by decide)]; rfl, ?_⟩
    have e13 : ρ (.tmp 13) = .int .i64 20 := hρ 13
    have HR := Lib.hid hR
    clear hR hN hp hρ c170 c171 c172
    go_light
    go_simp
    exact ⟨γ, LR.refl _ _, fun _ _ _ h => h, rfl⟩
  · refine LinStep.yes fun vals γ w' ρ hR hN hp hρ hc hf hg => ⟨by show (boolOf (vals 37) == some true) = true; rw [show vals 37 = .bool true from hp 37 (by decide)]; rfl, ?_⟩
    have e125 : ρ (.tmp 125) = .int .i64 20 := (hρ 125).trans (hp 38 (by decide))
    have HR := Lib.hid hR
    clear hR hN hp hρ c170 c171 c172
    go_light
    go_simp
    exact ⟨γ, LR.refl _ _, fun _ _ _ h => h, rfl⟩
  · refine LinStep.yes fun vals γ w' ρ hR hN hp hρ hc hf hg => ⟨rfl, ?_⟩
    have e124 : ρ (.tmp 124) = .bool true := (hρ 124).trans (hp 37 (by decide))
    have e126 : ρ (.tmp 126) = .bool true := (hρ 126).trans (hp 39 (by decide))
    have HR := Lib.hid hR
    clear hR hN hp hρ c170 c171 c172
    go_light
    go_simp
    exact ⟨γ, LR.refl _ _, fun _ _ _ h => h, rfl⟩
  · refine LinStep.yes fun vals γ w' ρ hR hN hp hρ hc hf hg => ⟨rfl, ?_⟩
    have e127 : ρ (.tmp 127) = .bool true := (hρ 127).trans (hp 40 (by decide))
    have HR := Lib.hid hR
    clear hR hN hp hρ c170 c171 c172
    go_light
    go_simp
    exact ⟨γ, LR.refl _ _, fun _ _ _ h => h, rfl⟩
  · intro vals γ w' hR hG
    have h41 : vals 41 = .bool true := hG 41 (by decide)
    have HX := Lib.hid (HX17.out.trans hR.drew_ext)
    clear hR hG
    simp only [lexFrame, Act.put, List.setIfInBounds_toArray, List.set_cons_succ, List.set_cons_zero, Nat.zero_add, Nat.reduceAdd, h41]
    clear h41
    go_wp2
    go_ret
    exact ⟨rfl, HX.out⟩
end Go.Proofs.YtcmmkeiiapbgcaaGreatDoor
/- What dependencies that hold imply, holds; closures of closures. Plain facts; no conditions. -/
namespace Go.Proofs.YtcmmkeiiapbgcaaGreatDoor
open Go Go.RowKit

theorem idxS_iff {l : List ByteArray} {v : ByteArray} : decide (0 ≤ idxS l v) = true ↔ v ∈ l := by rw [decide_eq_true_iff]; exact idxS_mem l v
theorem holdsS_iff {cols : List ByteArray} {rows : List (List Val)} {frm : List ByteArray} {x : ByteArray} : holdsS cols rows frm x = true ↔
    x ∈ cols ∧ regB cols rows = true ∧ (∀ f ∈ frm, f ∈ cols) ∧ ∀ r ∈ rows, ∀ o ∈ rows, (∀ f ∈ frm, eqAt (idxS cols f).toNat r o = true) → eqAt (idxS cols x).toNat r o = true := by
  unfold holdsS
  simp only [Bool.and_eq_true, idxS_iff, List.all_eq_true, and_assoc]
  refine and_congr Iff.rfl (and_congr Iff.rfl (and_congr Iff.rfl ?_))
  unfold holdRows
  simp only [List.all_eq_true, Bool.or_eq_true, Bool.not_eq_true', List.mem_map, forall_exists_index, and_imp, forall_apply_eq_imp_iff₂]
  constructor
  · intro h r hr o ho hf
    rcases h r hr o ho with h1 | h1
    · exfalso
      have : ((frm.map fun f => (idxS cols f).toNat).all fun f => eqAt f r o) = true := by
        rw [List.all_eq_true]
        intro x hx
        obtain ⟨f, hf', rfl⟩ := List.mem_map.1 hx
        exact hf f hf'
      rw [this] at h1
      cases h1
    · exact h1
  · intro h r hr o ho
    by_cases hf : ((frm.map fun f => (idxS cols f).toNat).all fun f => eqAt f r o) = true
    · right
      refine h r hr o ho fun f hf' => ?_
      rw [List.all_eq_true] at hf
      exact hf _ (List.mem_map_of_mem hf')
    · left
      simpa using hf
theorem holds_implied {cols : List ByteArray} {rows : List (List Val)} {good : List Dep} {frm ks : List ByteArray} (hreg : regB cols rows = true) (hgood : ∀ d ∈ good, holdsS cols rows d.frm d.to = true) (hfrm : ∀ x ∈ frm, x ∈ cols) (hc : IsClosure good frm ks) {x : ByteArray} (hx : x ∈ ks) : holdsS cols rows frm x = true := by
  refine hc.least (fun x => holdsS cols rows frm x = true) (fun x hx => ?_) (fun d hd h => ?_) x hx
  · exact holdsS_iff.2 ⟨hfrm x hx, hreg, hfrm, fun r _ o _ hf => hf x hx⟩
  · obtain ⟨h1, _, h3, h4⟩ := holdsS_iff.1 (hgood d hd)
    refine holdsS_iff.2 ⟨h1, hreg, hfrm, fun r hr o ho hf => h4 r hr o ho fun f hf' => ?_⟩
    exact (holdsS_iff.1 (h f hf')).2.2.2 r hr o ho hf
theorem mem_sortS {l : List ByteArray} {x : ByteArray} : x ∈ sortS l ↔ x ∈ l := by
  unfold sortS
  simp only [List.mem_map, List.mem_mergeSort]
  constructor
  · rintro ⟨a, ⟨y, hy, rfl⟩, rfl⟩
    exact hy
  · intro h
    exact ⟨x.data.toList, ⟨x, h, rfl⟩, rfl⟩
theorem sortS_len (l : List ByteArray) : (sortS l).length = l.length := by simp [sortS]
theorem IsClosure.again {l : List Dep} {frm ks ks' : List ByteArray} (h : IsClosure l frm ks) (h' : IsClosure l (sortS ks) ks') : sortS ks' = sortS ks := by
  refine h'.one ⟨h.nodup, fun x hx => mem_sortS.1 hx, h.closed, fun T h1 _ x hx => h1 x (mem_sortS.2 hx)⟩
theorem IsClosure.grow {l m : List Dep} {frm ks ks' : List ByteArray} (h : IsClosure l frm ks) (h' : IsClosure m frm ks') (hs : ∀ d ∈ l, d ∈ m) : ∀ x ∈ ks, x ∈ ks' :=
  h.least (· ∈ ks') h'.base fun d hd hf => h'.closed d (hs d hd) hf
theorem IsClosure.len {l : List Dep} {frm ks : List ByteArray} (h : IsClosure l frm ks) : ks.length ≤ frm.length + l.length := Part.len ⟨h.nodup, h.base, h.least⟩
theorem MadeT.reg {name : ByteArray} {t : Look} (h : MadeT name t) : regB t.cols t.rows = true := by
  obtain ⟨_, ks, h1, h2, h3, _, _, _, h7⟩ := h
  unfold regB
  rw [List.all_eq_true]
  intro r hr
  have := (h7 r hr).1
  have hl : names4.length = 4 := rfl
  simp [h3, this]
  omega
theorem MadeT.cols {name : ByteArray} {t : Look} (h : MadeT name t) : 1 ≤ t.cols.length ∧ t.cols.length ≤ 4 ∧ t.rows.length ≤ 6 := by
  obtain ⟨_, ks, h1, h2, h3, _, _, h6, _⟩ := h
  have hl : names4.length = 4 := rfl
  refine ⟨?_, ?_, h6⟩ <;> simp [h3] <;> omega
end Go.Proofs.YtcmmkeiiapbgcaaGreatDoor
/- The reference's index and square. Conditions: the arguments read as data. -/
namespace Go.Proofs.YtcmmkeiiapbgcaaGreatDoor
open Go Go.RowKit

set_option maxRecDepth 100000 in
set_option maxHeartbeats 400000 in
theorem r09_index (A : Option Addr) (c : Nat) (l : List ByteArray) (v : ByteArray) (w : World) (S : Nat → Prop) (h : Strs w S A l) :
    Calls Tryz.prog 48 #[.slice A l.length c, .string v] w (SameI w (idxS l v)) := by
  have hn := h.2.1
  go_enter Tryz.func48, Tryz.ntmps48
  go_wp2
  go_loop [5] (fun i => ∃ k : Nat, k ≤ l.length ∧ i = .int .i64 k ∧ ∀ j (h : j < l.length), j < k → l[j] ≠ v) (fun i => l.length - (intOf i).toNat)
  case atStart => exact ⟨0, Nat.zero_le _, rfl, by intros; omega⟩
  case round =>
    obtain ⟨k, hk, rfl, hall⟩ := hrel
    have HA := Lib.hid hall
    clear hall
    by_cases hlt : k < l.length
    · obtain ⟨b1, o1, rfl, z1, c1⟩ := h.at_ hlt
      by_cases hv : l[k] = v
      · have ht : (l[k].toList == v.toList) = true := by rw [bytes_beq]; simp [hv]
        have HV := Lib.hid hv
        clear hv
        go_wp2
        go_ret
        exact ⟨by rw [idxS_found hlt (fun j hj h => HA.out j hj h) HV.out]; rfl, rfl⟩
      · have ht : (l[k].toList == v.toList) = false := by rw [bytes_beq]; simp [hv]
        have HV := Lib.hid hv
        clear hv
        go_wp2
        go_round
        case rel =>
          refine ⟨k + 1, by omega, by go_num, fun j h hj => ?_⟩
          by_cases hjk : j = k
          · subst hjk; exact HV.out
          · exact HA.out j h (by omega)
        case measure => simp [intOf]; omega
    · go_wp2
      go_ret
      exact ⟨by rw [idxS_none (fun j hj => HA.out j hj (by omega))]; rfl, rfl⟩
set_option maxRecDepth 100000 in
set_option maxHeartbeats 400000 in
theorem r09_square (q : Nat) (cols : List ByteArray) (rows : List (List Val)) (A B : Option Addr) (c e : Nat) (w : World) (S : Nat → Prop) (hcl : cols.length ≤ 4294967296) (hB : Rows w S q B rows) :
    Calls Tryz.prog 66 #[.slice A cols.length c, .slice B rows.length e] w (SameB w (regB cols rows)) := by
  have hn := hB.len
  have HB := Lib.hid hB
  clear hB
  go_enter Tryz.func66, Tryz.ntmps66
  go_wp2
  go_loop [5] (fun i => ∃ k : Nat, k ≤ rows.length ∧ i = .int .i64 k ∧ ∀ j (h : j < rows.length), j < k → rows[j].length = cols.length) (fun i => rows.length - (intOf i).toNat)
  case atStart => exact ⟨0, Nat.zero_le _, rfl, by intros; omega⟩
  case round =>
    obtain ⟨k, hk, rfl, hall⟩ := hrel
    have HA := Lib.hid hall
    clear hall
    by_cases hlt : k < rows.length
    · obtain ⟨b1, o1, C1, e1, rfl, z1, c1, hce, hrow⟩ := HB.out.at_ hlt
      have hrl := hrow.len
      clear hrow
      by_cases hv : rows[k].length = cols.length
      · have ht : (((rows[k].length : Nat) : Int) != ((cols.length : Nat) : Int)) = false := by simp [hv]
        have HV := Lib.hid hv
        clear hv
        go_wp2
        go_round
        case rel =>
          refine ⟨k + 1, by omega, by go_num, fun j h hj => ?_⟩
          by_cases hjk : j = k
          · subst hjk; exact HV.out
          · exact HA.out j h (by omega)
        case measure => simp [intOf]; omega
      · have ht : (((rows[k].length : Nat) : Int) != ((cols.length : Nat) : Int)) = true := by simp; omega
        have HV := Lib.hid hv
        clear hv
        go_wp2
        go_ret
        refine ⟨?_, rfl⟩
        have hr : regB cols rows = false := all_not _ _ k hlt (by simp [HV.out])
        rw [hr]
        rfl
    · go_wp2
      go_ret
      refine ⟨?_, rfl⟩
      have hr : regB cols rows = true := all_take _ _ fun j hj => by simp [HA.out j hj (by omega)]
      rw [hr]
      rfl
end Go.Proofs.YtcmmkeiiapbgcaaGreatDoor
/- The reference's Find. Conditions: the arguments read as data. -/
namespace Go.Proofs.YtcmmkeiiapbgcaaGreatDoor
open Go Go.RowKit

set_option maxRecDepth 100000 in
set_option maxHeartbeats 2000000 in
theorem r09_Find (d : Nat) (t : Look) (key : ByteArray) (v : Val) (col : ByteArray) (A B Av Bv : Option Addr) (c e cv ev : Nat) (w : World) (S T : Nat → Prop) (h : RL w S d t A B) (hcap : t.cols.length ≤ c) (hv : RV w T d v Av Bv) :
    Calls Tryz.prog 14 #[(.agg #[.string t.name, .slice A t.cols.length c, .slice B t.rows.length e]), .string key, (.agg #[.int .i64 v.kind, .string v.s, .int .i64 v.dn, .int .i64 v.ds, .int .i64 v.n, .slice Av v.cols.length cv, .slice Bv v.rows.length ev]), .string col] w (RetVE w S d (findS t key v col)) := by
  obtain ⟨S', hS'⟩ : ∃ S' : Nat → Prop, S' = fun b => S b ∧ b < w.heap.size := ⟨_, rfl⟩
  have HS' := Lib.hid hS'
  have H := Lib.hid (h.mono (T := S') fun i hi hs => by rw [hS']; exact ⟨hs, hi⟩)
  have HV := Lib.hid hv
  clear hS'
  have hcl := h.2.1.2.1
  have hrl := h.2.2.len
  clear h hv
  go_enter Tryz.func14, Tryz.ntmps14
  go_wp2_with fail
  refine (r09_Right d t A B c e _ S' (H.out.keep (((((Ext.refl w).alloc _).alloc _).alloc _).kept _))).mono ?_
  rintro e1 w1 ⟨rfl, hx1⟩
  have HX1 := Lib.hid ((((Ext.refl w).alloc _).alloc _).alloc _ |>.trans hx1)
  have hz0 := hx1.size
  simp at hz0
  have hz1 : w.heap.size < w1.heap.size := by omega
  have hz2 : w.heap.size + 1 < w1.heap.size := by omega
  have hz3 : w.heap.size + 1 + 1 < w1.heap.size := by omega
  obtain ⟨hc1, hf1⟩ := bcell hx1
  simp at hc1 hf1
  cases hR : lookR t
  · have HF := Lib.hid (show findS t key v col = (Val.zero, 1) by simp [findS, hR])
    clear hR hx1
    go_wp2
    rw [HF.out]
    refine bodyPost_ret (v := .tuple #[(.agg #[.int .i64 Val.zero.kind, .string Val.zero.s, .int .i64 Val.zero.dn, .int .i64 Val.zero.ds, .int .i64 Val.zero.n, .slice none Val.zero.cols.length 0, .slice none Val.zero.rows.length 0]), .int .i64 1]) (by simp [results, Tryz.results14, go_sem, hc1, hf1, hz3, Val.zero]) rfl ⟨none, 0, none, 0, rfl, ⟨Nat.le_refl _, Nat.le_refl _⟩, RV.zero, ?_⟩
    iterate 7 with_reducible refine Ext.set2 ?_ (by omega) _
    with_reducible exact HX1.out
  have HR := Lib.hid hR
  have bL : Blk w1 w.heap.size 28 #[.string t.name, .slice A t.cols.length c, .slice B t.rows.length e] := (((Blk.new w 28 #[.string t.name, .slice A t.cols.length c, .slice B t.rows.length e]).keep (Kept.alloc _ _ _)).keep (Kept.alloc _ _ _)).keep (hx1.kept _)
  have bV : Blk w1 (w.heap.size + 1) 33 #[.int .i64 v.kind, .string v.s, .int .i64 v.dn, .int .i64 v.ds, .int .i64 v.n, .slice Av v.cols.length cv, .slice Bv v.rows.length ev] := by
    have := ((Blk.new (w.alloc (.cells #[.string t.name, .slice A t.cols.length c, .slice B t.rows.length e] 28)) 33 #[.int .i64 v.kind, .string v.s, .int .i64 v.dn, .int .i64 v.ds, .int .i64 v.n, .slice Av v.cols.length cv, .slice Bv v.rows.length ev]).keep (Kept.alloc _ _ _)).keep (hx1.kept _)
    simpa using this
  have bR : Blk w1 (w.heap.size + 1 + 1) 33 #[.int .i64 Val.zero.kind, .string Val.zero.s, .int .i64 Val.zero.dn, .int .i64 Val.zero.ds, .int .i64 Val.zero.n, .slice none Val.zero.cols.length 0, .slice none Val.zero.rows.length 0] := by
    have := (Blk.new ((w.alloc (.cells #[.string t.name, .slice A t.cols.length c, .slice B t.rows.length e] 28)).alloc (.cells #[.int .i64 v.kind, .string v.s, .int .i64 v.dn, .int .i64 v.ds, .int .i64 v.n, .slice Av v.cols.length cv, .slice Bv v.rows.length ev] 33)) 33 #[.int .i64 Val.zero.kind, .string Val.zero.s, .int .i64 Val.zero.dn, .int .i64 Val.zero.ds, .int .i64 Val.zero.n, .slice none Val.zero.cols.length 0, .slice none Val.zero.rows.length 0]).keep (hx1.kept _)
    simpa using this
  have g1 := bL.cell (i := 1) rfl
  have g2 := bL.cell (i := 2) rfl
  have HBL := Lib.hid bL
  have HBV := Lib.hid bV
  have HBR := Lib.hid bR
  have HL := Lib.hid (H.out.keep (HX1.out.kept S'))
  clear hx1 hc1 hf1 bV bR bL hR
  go_wp2_with fail
  refine (r09_index A c t.cols key _ S' HL.out.2.1).mono ?_
  rintro e1 w9 ⟨rfl, rfl⟩
  go_wp2_with fail
  refine (r09_index A c t.cols col _ S' HL.out.2.1).mono ?_
  rintro e1 w9 ⟨rfl, rfl⟩
  have r0 := HBR.out.cell (i := 0) rfl
  have r1 := HBR.out.cell (i := 1) rfl
  have r2 := HBR.out.cell (i := 2) rfl
  have r3 := HBR.out.cell (i := 3) rfl
  have r4 := HBR.out.cell (i := 4) rfl
  have r5 := HBR.out.cell (i := 5) rfl
  have r6 := HBR.out.cell (i := 6) rfl
  have rf := HBR.out.frozen
  by_cases hk : 0 ≤ idxS t.cols key
  case neg =>
    have HF := Lib.hid (show findS t key v col = (Val.zero, 13) by
      unfold findS
      rw [HR.out, if_neg (by simp), if_pos (Or.inl (by omega))])
    go_wp2
    rw [HF.out]
    refine bodyPost_ret (v := .tuple #[(.agg #[.int .i64 Val.zero.kind, .string Val.zero.s, .int .i64 Val.zero.dn, .int .i64 Val.zero.ds, .int .i64 Val.zero.n, .slice none Val.zero.cols.length 0, .slice none Val.zero.rows.length 0]), .int .i64 13]) (by simp [results, Tryz.results14, go_sem, r0, r1, r2, r3, r4, r5, r6, rf, hz3, Val.zero]) rfl ⟨none, 0, none, 0, rfl, ⟨Nat.le_refl _, Nat.le_refl _⟩, RV.zero, ?_⟩
    iterate 7 with_reducible refine Ext.set2 ?_ (by omega) _
    with_reducible exact HX1.out
  by_cases hc : 0 ≤ idxS t.cols col
  case neg =>
    have HF := Lib.hid (show findS t key v col = (Val.zero, 13) by
      unfold findS
      rw [HR.out, if_neg (by simp), if_pos (Or.inr (by omega))])
    go_wp2
    rw [HF.out]
    refine bodyPost_ret (v := .tuple #[(.agg #[.int .i64 Val.zero.kind, .string Val.zero.s, .int .i64 Val.zero.dn, .int .i64 Val.zero.ds, .int .i64 Val.zero.n, .slice none Val.zero.cols.length 0, .slice none Val.zero.rows.length 0]), .int .i64 13]) (by simp [results, Tryz.results14, go_sem, r0, r1, r2, r3, r4, r5, r6, rf, hz3, Val.zero]) rfl ⟨none, 0, none, 0, rfl, ⟨Nat.le_refl _, Nat.le_refl _⟩, RV.zero, ?_⟩
    iterate 7 with_reducible refine Ext.set2 ?_ (by omega) _
    with_reducible exact HX1.out
  obtain ⟨k, hk1, hk2, -⟩ := idxS_at hk
  obtain ⟨cc, hc1, hc2, -⟩ := idxS_at hc
  have HF := Lib.hid (show findS t key v col = findRows k cc v t.rows by
    unfold findS
    rw [HR.out, if_neg (by simp), if_neg (by omega), hk1, hc1]
    simp)
  rw [hk1, hc1, HF.out]
  clear hk hc hk1 hc1 r0 r1 r2 r3 r4 r5 r6 rf
  go_wp2
  have HTB := Lib.hid (lookR_tab HR.out)
  clear g1 g2
  go_loopw [13] (fun i wr => ∃ m : Nat, m ≤ t.rows.length ∧ i = .int .i64 m ∧ Ext w1 wr ∧ findRows k cc v (t.rows.drop m) = findRows k cc v t.rows) (fun i _ => t.rows.length - (intOf i).toNat)
  case atStart => exact ⟨0, Nat.zero_le _, rfl, Ext.refl _, rfl⟩
  case round =>
    obtain ⟨m, hm, rfl, hext, hfr⟩ := hrel
    have HFR := Lib.hid hfr
    have HE := Lib.hid hext
    have g2 := (HBL.out.keep (hext.kept _)).cell (i := 2) rfl
    clear hfr
    by_cases hlt : m < t.rows.length
    · obtain ⟨b1, o1, A2, c2, rfl, z1, p0, hcr, hrow⟩ := (HL.out.2.2.keep (hext.kept S')).at_ hlt
      have hll := tableR_row HTB.out hlt
      have hkr : k < t.rows[m].length := by omega
      have hcr2 : cc < t.rows[m].length := by omega
      obtain ⟨b2, o2, A5, c5, B5, e5, rfl, z2, ⟨q0, q1, q2, q3, q4, q5, q6⟩, ⟨hd, _, _⟩, hv5⟩ := hrow.at_ hkr
      have hrl2 := hrow.len
      have hdr : t.rows.drop m = t.rows[m] :: t.rows.drop (m + 1) := List.drop_eq_getElem_cons hlt
      have hgd : (t.rows[m].getD k Val.zero) = t.rows[m][k] := getD_of _ _ _ hkr
      have hgc : (t.rows[m].getD cc Val.zero) = t.rows[m][cc] := getD_of _ _ _ hcr2
      have HV5 := Lib.hid hv5
      have HROW := Lib.hid hrow
      have hbv := HBV.out.keep (hext.kept _)
      have v0 := hbv.cell (i := 0) rfl
      have v1 := hbv.cell (i := 1) rfl
      have v2 := hbv.cell (i := 2) rfl
      have v3 := hbv.cell (i := 3) rfl
      have v4 := hbv.cell (i := 4) rfl
      have v5 := hbv.cell (i := 5) rfl
      have v6 := hbv.cell (i := 6) rfl
      have HDR := Lib.hid hdr
      have HGD := Lib.hid hgd
      have HGC := Lib.hid hgc
      have HP0 := Lib.hid p0
      have HG2 := Lib.hid g2
      have HZ1 := Lib.hid z1
      clear hbv hdr hgd hgc hrow hv5 hext hll
      go_wp2
      go_still_tail 9, (by kernel_rfl)
      go_wp2_with fail
      refine (r09_is d t.rows[m][k] v A5 B5 Av Bv c5 e5 cv ev _ S' T ((HV5.out.up (by omega)).keep (Kept.drew _ _)) ((HV.out.keep ((HX1.out.trans HE.out).kept T)).keep (Kept.drew _ _))).mono ?_
      rintro e1 w3 ⟨rfl, hx3⟩
      have HX3 := Lib.hid (HE.out.drew.trans hx3)
      have HX3' := Lib.hid (((Ext.refl wr).drew).trans hx3)
      clear hx3 v0 v1 v2 v3 v4 v5 v6 p0 g2 q0 q1 q2 q3 q4 q5 q6
      cases his : isB t.rows[m][k] v
      · have HK := Lib.hid (show findRows k cc v (t.rows.drop (m + 1)) = findRows k cc v t.rows by rw [← HFR.out, HDR.out, findRows, HGD.out, his]; simp)
        clear his
        go_wp2
        go_roundw
        case rel => exact ⟨m + 1, by omega, by go_num, HX3.out, HK.out⟩
        case measure => simp [intOf]; omega
      · obtain ⟨b3, o3, A6, c6, B6, e6, hb3, z3, ⟨q0', q1', q2', q3', q4', q5', q6'⟩, ⟨hd', hcp6, hcp7⟩, hv6⟩ := (HROW.out.keep (HX3'.out.kept S')).at_ hcr2
        injection hb3 with hb3
        injection hb3 with hb3 hb4
        subst hb3
        subst hb4
        have HV6 := Lib.hid hv6
        clear hv6
        have p0 := HX3'.out.cell HP0.out
        have g2 := HX3'.out.cell HG2.out
        have z1' := Nat.lt_of_lt_of_le HZ1.out HX3'.out.size
        have hbr := HBR.out.keep (HX3.out.kept _)
        have r0 := hbr.cell (i := 0) rfl
        have r1 := hbr.cell (i := 1) rfl
        have r2 := hbr.cell (i := 2) rfl
        have r3 := hbr.cell (i := 3) rfl
        have r4 := hbr.cell (i := 4) rfl
        have r5 := hbr.cell (i := 5) rfl
        have r6 := hbr.cell (i := 6) rfl
        have rf := hbr.frozen
        have hz5 := hbr.lt
        clear hbr
        by_cases hk0 : t.rows[m][cc].kind = 0
        · have hk0' : (t.rows[m][cc].kind == 0) = true := by simp [hk0]
          have HK := Lib.hid (show findRows k cc v t.rows = (Val.zero, 18) by rw [← HFR.out, HDR.out, findRows, HGD.out, HGC.out, his, if_pos rfl, if_pos hk0])
          clear his hk0
          go_wp2
          rw [HF.out, HK.out]
          refine bodyPost_ret (v := .tuple #[(.agg #[.int .i64 Val.zero.kind, .string Val.zero.s, .int .i64 Val.zero.dn, .int .i64 Val.zero.ds, .int .i64 Val.zero.n, .slice none Val.zero.cols.length 0, .slice none Val.zero.rows.length 0]), .int .i64 18]) (by simp [results, Tryz.results14, go_sem, r0, r1, r2, r3, r4, r5, r6, rf, hz5, Val.zero]) rfl ⟨none, 0, none, 0, rfl, ⟨Nat.le_refl _, Nat.le_refl _⟩, RV.zero, ?_⟩
          iterate 7 with_reducible refine Ext.set2 ?_ (by omega) _
          exact HX1.out.trans HX3.out
        · have hk0' : (t.rows[m][cc].kind == 0) = false := by simp [hk0]
          have HK := Lib.hid (show findRows k cc v t.rows = (t.rows[m][cc], 0) by rw [← HFR.out, HDR.out, findRows, HGD.out, HGC.out, his, if_pos rfl, if_neg hk0])
          clear his hk0
          go_wp2
          rw [HF.out, HK.out]
          refine bodyPost_ret (v := .tuple #[(.agg #[.int .i64 t.rows[m][cc].kind, .string t.rows[m][cc].s, .int .i64 t.rows[m][cc].dn, .int .i64 t.rows[m][cc].ds, .int .i64 t.rows[m][cc].n, .slice A6 t.rows[m][cc].cols.length c6, .slice B6 t.rows[m][cc].rows.length e6]), .int .i64 0]) (by simp [results, Tryz.results14, go_sem, r0, r1, r2, r3, r4, r5, r6, rf, hz5]) rfl ⟨A6, c6, B6, e6, rfl, ⟨hcp6, hcp7⟩, ?_, ?_⟩
          · have h1 := (HV6.out.up (d' := d) (by omega)).mono (T := fun b => S b ∧ b < w.heap.size) fun i hi hs => by rw [HS'.out] at hs; exact hs
            have hne : ¬ (S (w.heap.size + 1 + 1) ∧ w.heap.size + 1 + 1 < w.heap.size) := fun h => by have := h.2; omega
            refine (h1.keep ?_).mono fun i _ hi => hi.1
            iterate 7 with_reducible refine Kept.set2 ?_ hne
            with_reducible exact Kept.refl _ _
          · iterate 7 with_reducible refine Ext.set2 ?_ (by omega) _
            exact HX1.out.trans HX3.out
    · have HK := Lib.hid (show findRows k cc v t.rows = (Val.zero, 18) by rw [← HFR.out, List.drop_eq_nil_of_le (by omega)]; rfl)
      have hbr := HBR.out.keep (hext.kept _)
      have r0 := hbr.cell (i := 0) rfl
      have r1 := hbr.cell (i := 1) rfl
      have r2 := hbr.cell (i := 2) rfl
      have r3 := hbr.cell (i := 3) rfl
      have r4 := hbr.cell (i := 4) rfl
      have r5 := hbr.cell (i := 5) rfl
      have r6 := hbr.cell (i := 6) rfl
      have rf := hbr.frozen
      have hz5 := hbr.lt
      clear hbr hext
      go_wp2
      rw [HF.out, HK.out]
      refine bodyPost_ret (v := .tuple #[(.agg #[.int .i64 Val.zero.kind, .string Val.zero.s, .int .i64 Val.zero.dn, .int .i64 Val.zero.ds, .int .i64 Val.zero.n, .slice none Val.zero.cols.length 0, .slice none Val.zero.rows.length 0]), .int .i64 18]) (by simp [results, Tryz.results14, go_sem, r0, r1, r2, r3, r4, r5, r6, rf, hz5, Val.zero]) rfl ⟨none, 0, none, 0, rfl, ⟨Nat.le_refl _, Nat.le_refl _⟩, RV.zero, ?_⟩
      iterate 7 with_reducible refine Ext.set2 ?_ (by omega) _
      exact HX1.out.trans HE.out
end Go.Proofs.YtcmmkeiiapbgcaaGreatDoor
