/- The reference's Odd: a cell replaced. Conditions: the table reads as data, and is regular. -/
import Derived.Test.YtcmmkeiiapbgcaaGreatDoorBm11
import Derived.IntWalk
namespace Go.Proofs.YtcmmkeiiapbgcaaGreatDoor
open Go Go.RowKit
def OdEInv (_w w2 : World) (_q1 _q2 : Int) (_Ac : Option Addr) (_cc _m : Nat) (_ga _cr _n _K _J _g _e0 : Nat) (γ : Nat) (w' : World) : Prop := γ ≤ 0 ∧ Ext w2 w'
def gOdE (w _w2 : World) (q1 _q2 : Int) (_Ac : Option Addr) (_cc _m : Nat) (ga cr n K _J _g _e0 : Nat) : Nat → List Value → Nat → World → Prop
  | 0, [v], _, _ => v = .pointer (some ⟨w.heap.size + 1, 1, none⟩)
  | 1, [v], _, _ => v = .int .i64 q1
  | 2, [v], _, _ => v = .pointer (some ⟨w.heap.size, 2, none⟩)
  | 3, [v], _, _ => v = .slice (some ⟨ga, 0, none⟩) n cr
  | 4, [v], _, _ => v = .int .i64 (n : Int)
  | 5, [v], _, _ => v = .int .i64 (q1.tmod (n : Int))
  | 6, [v], _, _ => v = .pointer (some ⟨w.heap.size, 2, none⟩)
  | 7, [v], _, _ => v = .slice (some ⟨ga, 0, none⟩) n cr
  | 8, [v], _, _ => v = .int .i64 (n : Int)
  | 9, [v], _, _ => v = .int .i64 (q1.tmod (n : Int) + (n : Int))
  | 10, [v], _, _ => v = .pointer (some ⟨w.heap.size, 2, none⟩)
  | 11, [v], _, _ => v = .slice (some ⟨ga, 0, none⟩) n cr
  | 12, [v], _, _ => v = .int .i64 (n : Int)
  | 13, [v], _, _ => v = .int .i64 (K : Int)
  | 14, [v], _, _ => v = .int .i64 (K : Int)
  | _, _, _, _ => True
theorem gOdE_st (w w2 : World) (q1 q2 : Int) (Ac : Option Addr) (cc m : Nat) (ga cr n K J g e0 : Nat) : ∀ i l' γ v γ' v', SR (OdEInv w w2 q1 q2 Ac cc m ga cr n K J g e0) γ v γ' v' → gOdE w w2 q1 q2 Ac cc m ga cr n K J g e0 i l' γ v → gOdE w w2 q1 q2 Ac cc m ga cr n K J g e0 i l' γ' v' := by
  intro i l' γ v γ' v' r h
  have hle := r.le
  unfold gOdE at h ⊢
  split at h
  all_goals first
    | exact h
    | (obtain ⟨h1, h2⟩ := h; exact ⟨h1, by omega⟩)
    | (obtain ⟨h1, h3, h4⟩ := h; exact ⟨h1, by omega, fun e => by rw [r.eq (by omega)]; exact h4 (by omega)⟩)
    | (obtain ⟨x0, h1, h3, h4⟩ := h; exact ⟨x0, h1, by omega, fun e => by rw [r.eq (by omega)]; exact h4 (by omega)⟩)
    | (obtain ⟨x0, x1, h1, h3, h4⟩ := h; exact ⟨x0, x1, h1, by omega, fun e => by rw [r.eq (by omega)]; exact h4 (by omega)⟩)
    | (obtain ⟨x0, x1, x2, h1, h3, h4⟩ := h; exact ⟨x0, x1, x2, h1, by omega, fun e => by rw [r.eq (by omega)]; exact h4 (by omega)⟩)
    | (obtain ⟨x0, x1, x2, x3, h1, h3, h4⟩ := h; exact ⟨x0, x1, x2, x3, h1, by omega, fun e => by rw [r.eq (by omega)]; exact h4 (by omega)⟩)
    | (obtain ⟨x0, x1, x2, x3, x4, h1, h3, h4⟩ := h; exact ⟨x0, x1, x2, x3, x4, h1, by omega, fun e => by rw [r.eq (by omega)]; exact h4 (by omega)⟩)
    | (obtain ⟨h3, h4⟩ := h; exact ⟨by omega, fun e => by rw [r.eq (by omega)]; exact h4 (by omega)⟩)
def dOdE : Nat → List Nat := fun i => [i]
def stOdE : List Nat := [100, 100, 100, 100, 100, 100, 100, 100, 100, 100, 100, 100, 100, 100, 100]
def OdFInv (_w w2 : World) (_q1 _q2 : Int) (_Ac : Option Addr) (_cc _m : Nat) (_ga _cr _n _K _J _g _e0 : Nat) (γ : Nat) (w' : World) : Prop := γ ≤ 3 ∧ (γ ≤ 2 → Ext w2 w')
def gOdF (w w2 : World) (q1 q2 : Int) (Ac : Option Addr) (cc m : Nat) (ga cr n K J g e0 : Nat) : Nat → List Value → Nat → World → Prop
  | 0, [v], _, _ => v = .pointer (some ⟨w.heap.size, 2, none⟩)
  | 1, [v], _, _ => v = .slice (some ⟨ga, 0, none⟩) n cr
  | 2, [v], _, _ => v = .int .i64 (K : Int)
  | 3, [v], _, _ => v = .pointer (some ⟨ga, K, none⟩)
  | 4, [v], _, _ => v = .slice (some ⟨g, 0, none⟩) m e0
  | 5, [v], _, _ => v = .pointer (some ⟨w.heap.size + 1, 2, none⟩)
  | 6, [v], _, _ => v = .int .i64 q2
  | 7, [v], _, _ => v = .pointer (some ⟨w.heap.size, 1, none⟩)
  | 8, [v], _, _ => v = .slice Ac m cc
  | 9, [v], _, _ => v = .int .i64 (m : Int)
  | 10, [v], _, _ => v = .int .i64 (q2.tmod (m : Int))
  | 11, [v], _, _ => v = .pointer (some ⟨w.heap.size, 1, none⟩)
  | 12, [v], _, _ => v = .slice Ac m cc
  | 13, [v], _, _ => v = .int .i64 (m : Int)
  | 14, [v], _, _ => v = .int .i64 (q2.tmod (m : Int) + (m : Int))
  | 15, [v], _, _ => v = .pointer (some ⟨w.heap.size, 1, none⟩)
  | 16, [v], _, _ => v = .slice Ac m cc
  | 17, [v], _, _ => v = .int .i64 (m : Int)
  | 18, [v], _, _ => v = .int .i64 (J : Int)
  | 19, [v], _, _ => v = .pointer (some ⟨w.heap.size + 1, 1, none⟩)
  | 20, [v], _, _ => v = .int .i64 q1
  | 21, [v], _, _ => v = .pointer (some ⟨w.heap.size + 1, 2, none⟩)
  | 22, [v], _, _ => v = .int .i64 q2
  | 23, [v], γ, w' => ∃ gg : Nat, v = .slice (some ⟨gg, 0, none⟩) 2 2 ∧ 1 ≤ γ ∧ (γ = 1 → Blk w' gg 3 #[.int .i64 q1, .int .i64 q2])
  | 24, [v], γ, w' => ∃ (x : Val) (A1 : Option Addr) (c1 : Nat) (B1 : Option Addr) (e1 : Nat), v = (.agg #[.int .i64 x.kind, .string x.s, .int .i64 x.dn, .int .i64 x.ds, .int .i64 x.n, .slice A1 x.cols.length c1, .slice B1 x.rows.length e1]) ∧ 2 ≤ γ ∧ (γ = 2 → (x.cols.length ≤ c1 ∧ x.rows.length ≤ e1) ∧ RV w' (fun b => w2.heap.size ≤ b) 1 x A1 B1)
  | 25, [v], _, _ => v = .pointer (some ⟨g, J * 7, none⟩)
  | 26, [_], γ, w' => 3 ≤ γ ∧ (γ = 3 → ∃ (w3 : World) (x : Val) (A1 : Option Addr) (c1 : Nat) (B1 : Option Addr) (e1 : Nat), Ext w2 w3 ∧ (x.cols.length ≤ c1 ∧ x.rows.length ≤ e1) ∧ RV w3 (fun b => w2.heap.size ≤ b) 1 x A1 B1 ∧ w' = ((((((w3.setCell ⟨g, J * 7, none⟩ (.int .i64 x.kind)).setCell ⟨g, J * 7 + 1, none⟩ (.string x.s)).setCell ⟨g, J * 7 + 2, none⟩ (.int .i64 x.dn)).setCell ⟨g, J * 7 + 3, none⟩ (.int .i64 x.ds)).setCell ⟨g, J * 7 + 4, none⟩ (.int .i64 x.n)).setCell ⟨g, J * 7 + 5, none⟩ (.slice A1 x.cols.length c1)).setCell ⟨g, J * 7 + 6, none⟩ (.slice B1 x.rows.length e1))
  | _, _, _, _ => True
theorem gOdF_st (w w2 : World) (q1 q2 : Int) (Ac : Option Addr) (cc m : Nat) (ga cr n K J g e0 : Nat) : ∀ i l' γ v γ' v', SR (OdFInv w w2 q1 q2 Ac cc m ga cr n K J g e0) γ v γ' v' → gOdF w w2 q1 q2 Ac cc m ga cr n K J g e0 i l' γ v → gOdF w w2 q1 q2 Ac cc m ga cr n K J g e0 i l' γ' v' := by
  intro i l' γ v γ' v' r h
  have hle := r.le
  unfold gOdF at h ⊢
  split at h
  all_goals first
    | exact h
    | (obtain ⟨h1, h2⟩ := h; exact ⟨h1, by omega⟩)
    | (obtain ⟨h1, h3, h4⟩ := h; exact ⟨h1, by omega, fun e => by rw [r.eq (by omega)]; exact h4 (by omega)⟩)
    | (obtain ⟨x0, h1, h3, h4⟩ := h; exact ⟨x0, h1, by omega, fun e => by rw [r.eq (by omega)]; exact h4 (by omega)⟩)
    | (obtain ⟨x0, x1, h1, h3, h4⟩ := h; exact ⟨x0, x1, h1, by omega, fun e => by rw [r.eq (by omega)]; exact h4 (by omega)⟩)
    | (obtain ⟨x0, x1, x2, h1, h3, h4⟩ := h; exact ⟨x0, x1, x2, h1, by omega, fun e => by rw [r.eq (by omega)]; exact h4 (by omega)⟩)
    | (obtain ⟨x0, x1, x2, x3, h1, h3, h4⟩ := h; exact ⟨x0, x1, x2, x3, h1, by omega, fun e => by rw [r.eq (by omega)]; exact h4 (by omega)⟩)
    | (obtain ⟨x0, x1, x2, x3, x4, h1, h3, h4⟩ := h; exact ⟨x0, x1, x2, x3, x4, h1, by omega, fun e => by rw [r.eq (by omega)]; exact h4 (by omega)⟩)
    | (obtain ⟨h3, h4⟩ := h; exact ⟨by omega, fun e => by rw [r.eq (by omega)]; exact h4 (by omega)⟩)
def dOdF : Nat → List Nat := fun i => [i]
def stOdF : List Nat := [100, 3, 100, 100, 3, 100, 3, 100, 3, 100, 100, 100, 3, 100, 100, 100, 3, 100, 100, 100, 3, 100, 3, 1, 2, 100, 3]

theorem Own.blk0 {w : World} {base e sz n c : Nat} {A : Option Addr} {xs : List Value} (h : Own w base e sz A n c xs) (hn : 0 < n) : ∃ (g : Nat) (cur : Array Value), A = some ⟨g, 0, none⟩ ∧ Blk w g e cur ∧ base ≤ g := by
  rcases h.2 with ⟨_, h0⟩ | ⟨g, cap, cur, hv, hb, hh, _⟩
  · omega
  · injection hv with hv
    exact ⟨g, cur, hv, hh, hb⟩
theorem odd3_fin {w w2 w3 w' : World} {q0 q1 q2 : Int} {nm : ByteArray} {Ac Ar : Option Addr} {cc cr : Nat} {cols : List ByteArray} {rows : List (List Val)} {K J g e0 : Nat} {X : Nat → Prop} {x : Val} {A1 B1 : Option Addr} {c1 e1 : Nat} (h : OD w q0 q1 q2 nm Ac cc cols Ar cr rows w2) (hx : Ext w2 w3) (hcp : x.cols.length ≤ c1 ∧ x.rows.length ≤ e1) (hxv : RV w3 (fun b => w2.heap.size ≤ b) 1 x A1 B1) (hw : w' = ((((((w3.setCell ⟨g, J * 7, none⟩ (.int .i64 x.kind)).setCell ⟨g, J * 7 + 1, none⟩ (.string x.s)).setCell ⟨g, J * 7 + 2, none⟩ (.int .i64 x.dn)).setCell ⟨g, J * 7 + 3, none⟩ (.int .i64 x.ds)).setCell ⟨g, J * 7 + 4, none⟩ (.int .i64 x.n)).setCell ⟨g, J * 7 + 5, none⟩ (.slice A1 x.cols.length c1)).setCell ⟨g, J * 7 + 6, none⟩ (.slice B1 x.rows.length e1)) (h1 : nm.size ≤ 4294967296) (h2 : cols.length ≤ 4294967296)
    (hK : K < rows.length) (hJ : J < rows[K].length) (hrl : rows[K].length ≤ 4294967296) (hv : OwnVs w2 (w.heap.size + 3) X 2 (some ⟨g, 0, none⟩) e0 rows[K]) (hX : ∀ b, X b → w.heap.size + 3 ≤ b ∧ ob Ar ≠ some b) (hsc : ob Ac ≠ some g)
    (hcl : ∀ (w' : World) (r' : List Val), Kept (fun b => ob (some ⟨g, 0, none⟩) ≠ some b) w2 w' → r'.length = rows[K].length → Row w' (fun b => w.heap.size + 3 ≤ b) 2 (some ⟨g, 0, none⟩) r' → Rows w' (fun b => w.heap.size + 3 ≤ b) 2 Ar (rows.set K r')) : ∃ (t : Look) (A : Option Addr) (c : Nat) (B : Option Addr) (e : Nat), OF w t A c B e w' := by
  have hg := hv.blk (k := g) rfl
  have hw2 : w.heap.size + 3 ≤ w2.heap.size := by have := h.res.lt; omega
  obtain ⟨hr, hk⟩ := (hv.ext hx).store7 (T := fun b => w.heap.size + 3 ≤ b) hJ hrl (x := x) ⟨by decide, hcp⟩ (hxv.mono fun b _ hb => ⟨by omega, by omega⟩) hg.1 (fun b hb => (hX b hb).1) hw
  have hkk : Kept (fun b => b ≠ g) w2 w' := (hx.kept _).trans hk
  refine ⟨⟨nm, cols, rows.set K (rows[K].set J x)⟩, Ac, cc, Ar, cr, OF.far h (hkk.mono fun b _ hb => by omega) ?_ (by simp) h1 ?_ (hcl w' _ (hkk.mono fun b _ hb e => hb (by rw [e]; rfl)) (by simp) hr)⟩
  · rw [hw]
    iterate 7 refine Ext.set2 ?_ (by omega) _
    exact h.ext.trans hx
  · have := (h.cols.strs (T := fun b => w.heap.size + 3 ≤ b ∧ b ≠ g) h2 fun b hb => ⟨(h.cols.1.blk hb).1, fun e => hsc (by rw [← e]; exact hb)⟩).keep (hkk.mono fun b _ hb => hb.2)
    exact this.mono fun b _ hb => hb.1

set_option maxRecDepth 100000 in
set_option maxHeartbeats 4000000 in
theorem odd_3 (t : Look) (A B : Option Addr) (c e : Nat) (q0 q1 q2 : Int) (w : World) (S : Nat → Prop) (h : RL w S 2 t A B) (ht : OkT t) (hm : (q0.tmod 8 + 8) % 8 = 3) : Calls Tryz.prog 11 #[(.agg #[.string t.name, .slice A t.cols.length c, .slice B t.rows.length e]), .agg #[.int .i64 q0, .int .i64 q1, .int .i64 q2]] w (RetOd w) := by
  have H := Lib.hid h
  obtain ⟨ht1, ht2, ht3, ht4⟩ := ht
  have HT4 := Lib.hid ht4
  obtain ⟨hb1, hb2⟩ := next_bd q0 8 (by omega)
  have hnm := h.1
  clear h ht4
  obtain ⟨W0, hW0⟩ : ∃ W0, W0 = ((w.alloc (.cells #[.string t.name, .slice A t.cols.length c, .slice B t.rows.length e] 28)).alloc (.cells #[.int .i64 q0, .int .i64 q1, .int .i64 q2] 23)).alloc (.cells #[.string ⟨#[]⟩, .slice none 0 0, .slice none 0 0] 28) := ⟨_, rfl⟩
  have HW0 := Lib.hid hW0
  have hx0 : Ext w W0 := by rw [hW0]; exact (((Ext.refl w).alloc _).alloc _).alloc _
  have b0 : Blk W0 w.heap.size 28 #[.string t.name, .slice A t.cols.length c, .slice B t.rows.length e] := by rw [hW0]; exact ((Blk.new _ _ _).keep (Kept.alloc _ _ _)).keep (Kept.alloc _ _ _)
  have b1 : Blk W0 (w.heap.size + 1) 23 #[.int .i64 q0, .int .i64 q1, .int .i64 q2] := by
    rw [hW0]
    have := (Blk.new (w.alloc (.cells #[.string t.name, .slice A t.cols.length c, .slice B t.rows.length e] 28)) 23 #[.int .i64 q0, .int .i64 q1, .int .i64 q2]).keep (Kept.alloc _ _ (.cells #[.string ⟨#[]⟩, .slice none 0 0, .slice none 0 0] 28))
    simpa using this
  have b2 : Blk W0 (w.heap.size + 1 + 1) 28 #[.string ⟨#[]⟩, .slice none 0 0, .slice none 0 0] := by
    rw [hW0]
    have := Blk.new ((w.alloc (.cells #[.string t.name, .slice A t.cols.length c, .slice B t.rows.length e] 28)).alloc (.cells #[.int .i64 q0, .int .i64 q1, .int .i64 q2] 23)) 28 #[.string ⟨#[]⟩, .slice none 0 0, .slice none 0 0]
    simpa using this
  have hs0 : W0.heap.size = w.heap.size + 3 := by rw [hW0]; simp
  have HX0 := Lib.hid hx0
  have HB0 := Lib.hid b0
  have HB1 := Lib.hid b1
  have HB2 := Lib.hid b2
  have HS0 := Lib.hid hs0
  clear hW0 hx0 b0 b1 b2 hs0
  go_enter Tryz.func11, Tryz.ntmps11
  go_wp2_with fail
  rw [← HW0.out]
  refine (r09_Copy 2 t A B c e W0 S (H.out.keep (HX0.out.kept S))).mono ?_
  rintro e1 w1 ⟨Ac, cc, Ar, cr, rfl, hoc, hor, hsep, hx1⟩
  rw [HS0.out] at hoc hor
  have HM1 := Lib.hid (show OD w q0 q1 q2 t.name Ac cc t.cols Ar cr t.rows (((w1.setCell ⟨w.heap.size, 0, none⟩ (.string t.name)).setCell ⟨w.heap.size, 1, none⟩ (.slice Ac t.cols.length cc)).setCell ⟨w.heap.size, 2, none⟩ (.slice Ar t.rows.length cr)) by
    have ho := (((Only.refl w.heap.size w1).set 0 (.string t.name)).set 1 (.slice Ac t.cols.length cc)).set 2 (.slice Ar t.rows.length cr)
    refine ⟨(HX0.out.trans hx1).only ho (by omega), ?_, (HB1.out.keep (hx1.kept _)).keep (ho.kept fun b _ e => by omega), (HB2.out.keep (hx1.kept _)).keep (ho.kept fun b _ e => by omega), ⟨ho.own hoc.1 (by omega), hoc.2⟩, hor.keep (ho.kept fun b _ e => by omega) (fun b hb hb' => hsep b hb' hb), hsep⟩
    have := (((HB0.out.keep (hx1.kept _)).set 0 (.string t.name)).set 1 (.slice Ac t.cols.length cc)).set 2 (.slice Ar t.rows.length cr)
    simpa using this)
  have q5 := HB0.out.keep (hx1.kept _)
  have k50 := q5.cell (i := 0) rfl
  have k51 := q5.cell (i := 1) rfl
  have k52 := q5.cell (i := 2) rfl
  have kf := q5.frozen
  have kz := q5.lt
  clear hoc hor hsep hx1 q5 HX0 HB0 HB1 HB2 HS0 HW0
  go_upto_region 2 with fail
  obtain ⟨w2, hw2⟩ : ∃ w2, w2 = (((w1.setCell ⟨w.heap.size, 0, none⟩ (.string t.name)).setCell ⟨w.heap.size, 1, none⟩ (.slice Ac t.cols.length cc)).setCell ⟨w.heap.size, 2, none⟩ (.slice Ar t.rows.length cr)) := ⟨_, rfl⟩
  rw [← hw2] at HM1
  rw [← hw2]
  clear hw2 k50 k51 k52 kf kz
  obtain ⟨cols, hcols⟩ : ∃ cols, cols = t.cols := ⟨_, rfl⟩
  obtain ⟨rows, hrows⟩ : ∃ rows, rows = t.rows := ⟨_, rfl⟩
  obtain ⟨nm, hnmE⟩ : ∃ nm, nm = t.name := ⟨_, rfl⟩
  rw [← hcols, ← hrows, ← hnmE] at HM1
  rw [← hcols] at ht1 ht2 HT4
  rw [← hrows] at ht3 HT4
  rw [← hnmE] at hnm
  clear hcols hrows hnmE
  have HM := HM1
  have d0 := HM1.out.box.cell (i := 0) rfl
  have d1 := HM1.out.box.cell (i := 1) rfl
  have d2 := HM1.out.box.cell (i := 2) rfl
  have df := HM1.out.box.frozen
  have dz := HM1.out.box.lt
  have g0 := HM1.out.qb.cell (i := 0) rfl
  have g1 := HM1.out.qb.cell (i := 1) rfl
  have g2 := HM1.out.qb.cell (i := 2) rfl
  have gz := HM1.out.qb.lt
  have HR4 := Lib.hid (show ∀ r ∈ rows, r.length ≤ 4294967296 from fun r hr => by rw [HT4.out r hr]; omega)
  by_cases h0 : 0 < rows.length
  · have hn0 : (1 : Int) ≤ (rows.length : Int) := by omega
    have hm0 : (1 : Int) ≤ (cols.length : Int) := by omega
    obtain ⟨hK1, hK2⟩ := next_r q1 (rows.length : Int) hn0
    obtain ⟨hJ1, hJ2⟩ := next_r q2 (cols.length : Int) hm0
    obtain ⟨hK3, hK4⟩ := next_bd q1 (rows.length : Int) hn0
    obtain ⟨hJ3, hJ4⟩ := next_bd q2 (cols.length : Int) hm0
    obtain ⟨K, hKE⟩ : ∃ K : Nat, (q1.tmod (rows.length : Int) + (rows.length : Int)).tmod (rows.length : Int) = (K : Int) := ⟨_, (Int.toNat_of_nonneg hK1).symm⟩
    obtain ⟨J, hJE⟩ : ∃ J : Nat, (q2.tmod (cols.length : Int) + (cols.length : Int)).tmod (cols.length : Int) = (J : Int) := ⟨_, (Int.toNat_of_nonneg hJ1).symm⟩
    rw [hKE] at hK2
    rw [hJE] at hJ2
    have hKn : K < rows.length := by omega
    have hJm : J < cols.length := by omega
    obtain ⟨hs, B1, e0, X, ho1, hk1, hv1, hX1, hne1, hcl⟩ := HM.out.rows.at_ hKn (by omega) HR4.out
    have hrl : rows[K].length = cols.length := HT4.out _ (List.getElem_mem hKn)
    obtain ⟨ga, cura, hAr, hBa, -⟩ := ho1.blk0 (by omega)
    obtain ⟨g, curg, hB1, hBg, -⟩ := (show ∃ xs, Own w2 (w.heap.size + 3) 33 7 B1 rows[K].length e0 xs by obtain ⟨xs, ho, _⟩ := hv1; exact ⟨xs, ho⟩).elim fun xs ho => ho.blk0 (by omega)
    subst hB1
    have HHD := Lib.hid (show w2.cell? ⟨ga, K, none⟩ = some (.slice (some ⟨g, 0, none⟩) cols.length e0) by
      obtain ⟨b, o, h1, h2, h3⟩ := ho1.rd.at_ hk1
      rw [hAr] at h1
      injection h1 with h1
      injection h1 with h1 h1'
      rw [← h1, ← h1', Nat.zero_add, hrl] at h3
      exact h3)
    have HST := Lib.hid (show ∀ w', Ext w2 w' → (∃ x0 x1 x2 x3 x4 x5 x6, w'.cell? ⟨g, J * 7, none⟩ = some x0 ∧ w'.cell? ⟨g, J * 7 + 1, none⟩ = some x1 ∧ w'.cell? ⟨g, J * 7 + 2, none⟩ = some x2 ∧ w'.cell? ⟨g, J * 7 + 3, none⟩ = some x3 ∧ w'.cell? ⟨g, J * 7 + 4, none⟩ = some x4 ∧ w'.cell? ⟨g, J * 7 + 5, none⟩ = some x5 ∧ w'.cell? ⟨g, J * 7 + 6, none⟩ = some x6) ∧ (∀ i, w'.frozen? ⟨g, i, none⟩ = false) ∧ g < w'.heap.size by
      intro w' hx
      have hb := hBg.keep (hx.kept _)
      have hrow := (hv1.row (T := fun _ => True) (by omega) (fun _ _ => trivial) (fun _ _ => trivial)).keep (hx.kept _)
      obtain ⟨b, o, A5, c5, B5, e5, hb5, z5, ⟨p0, p1, p2, p3, p4, p5, p6⟩, -⟩ := hrow.at_ (k := J) (by omega)
      injection hb5 with hb5
      injection hb5 with hb5 hb6
      subst hb5
      subst hb6
      simp only [Nat.zero_add] at p0 p1 p2 p3 p4 p5 p6
      exact ⟨⟨_, _, _, _, _, _, _, p0, p1, p2, p3, p4, p5, p6⟩, hb.frozen, hb.lt⟩)
    have HSC := Lib.hid (show ob Ac ≠ some g from fun hc => by
      obtain ⟨g', cur', hv', hb', -⟩ := HM.out.cols.1.blk0 (by omega)
      rw [hv'] at hc
      injection hc with hc
      subst hc
      unfold Blk at hBg hb'
      rw [hb'] at hBg
      injection hBg with hBg
      injection hBg with _ hBg
      exact absurd hBg (by decide))
    have HV1 := Lib.hid hv1
    have HX1 := Lib.hid hX1
    have HCL := Lib.hid hcl
    have HRL := Lib.hid hrl
    have D2 := Lib.hid (show w2.cell? ⟨w.heap.size, 2, none⟩ = some (.slice (some ⟨ga, 0, none⟩) rows.length cr) by rw [← hAr]; exact d2)
    have D1 := Lib.hid d1
    have G1 := Lib.hid g1
    have G2 := Lib.hid g2
    have HKW := Lib.hid (IntWalk.i64_in (q1.tmod (rows.length : Int) + (rows.length : Int)) (by omega))
    have HJW := Lib.hid (IntWalk.i64_in (q2.tmod (cols.length : Int) + (cols.length : Int)) (by omega))
    have HKN := Lib.hid (show 0 ≤ q1.tmod (rows.length : Int) + (rows.length : Int) by omega)
    have HJN := Lib.hid (show 0 ≤ q2.tmod (cols.length : Int) + (cols.length : Int) by omega)
    have HKE := Lib.hid hKE
    have HJE := Lib.hid hJE
    have HAR := Lib.hid hAr
    clear ho1 hk1 hv1 hX1 hne1 hcl hrl hBa hBg hK1 hJ1 hK3 hK4 hJ3 hJ4 hKE hJE hAr
    go_upto_region 11 with fail
    obtain ⟨n, hn⟩ : ∃ n, n = rows.length := ⟨_, rfl⟩
    obtain ⟨m, hm'⟩ : ∃ m, m = cols.length := ⟨_, rfl⟩
    have HNN := Lib.hid hn
    have HMM := Lib.hid hm'
    rw [← hn] at D2 HKW HKN HKE h0 hn0 hK2
    rw [← hm'] at D1 HHD HJW HJN HJE hm0 hJ2
    clear hn hm'
    have hKn' : K < n := by omega
    have hJm' : J < m := by omega
    refine wp_region_lin_lit (by kernel_rfl) dOdE (by kernel_rfl) (SR (OdEInv w w2 q1 q2 Ac cc m ga cr n K J g e0)) (SR.refl _) (SR.trans _) (SN stOdE) (gOdE w w2 q1 q2 Ac cc m ga cr n K J g e0) (gOdE_st _ _ _ _ _ _ _ _ _ _ _ _ _ _) 0 (SN.zero (by decide)) ⟨?_, ?_, ?_, ?_, ?_, ?_, ?_, ?_, ?_, ?_, ?_, ?_, ?_, ?_, ?_, trivial⟩ ?_
    · refine LinStep.yes fun vals γ w' ρ hR hN hp hρ hc hf hg => ⟨rfl, ?_⟩
      have hi := hR.inv ⟨by omega, (Ext.refl w2).drew⟩
      have e3 : ρ (.tmp 3) = .pointer (some ⟨w.heap.size + 1, 0, none⟩) := hρ 3
      clear hR hN hp hρ hi
      go_light
      go_simp
      exact ⟨γ, SR.refl _ _ _, fun _ _ _ h => h, rfl⟩
    · refine LinStep.yes fun vals γ w' ρ hR hN hp hρ hc hf hg => ⟨rfl, ?_⟩
      have hi := hR.inv ⟨by omega, (Ext.refl w2).drew⟩
      have e49 : ρ (.tmp 49) = _ := (hρ 49).trans (hp 0 (by decide))
      have k1 := hi.2.cell G1.out
      clear hR hN hp hρ hi
      go_light
      go_simp
      exact ⟨γ, SR.refl _ _ _, fun _ _ _ h => h, rfl⟩
    · refine LinStep.yes fun vals γ w' ρ hR hN hp hρ hc hf hg => ⟨rfl, ?_⟩
      have hi := hR.inv ⟨by omega, (Ext.refl w2).drew⟩
      have e2 : ρ (.tmp 2) = .pointer (some ⟨w.heap.size, 0, none⟩) := hρ 2
      clear hR hN hp hρ hi
      go_light
      go_simp
      exact ⟨γ, SR.refl _ _ _, fun _ _ _ h => h, rfl⟩
    · refine LinStep.yes fun vals γ w' ρ hR hN hp hρ hc hf hg => ⟨rfl, ?_⟩
      have hi := hR.inv ⟨by omega, (Ext.refl w2).drew⟩
      have e51 : ρ (.tmp 51) = _ := (hρ 51).trans (hp 2 (by decide))
      have k1 := hi.2.cell D2.out
      clear hR hN hp hρ hi
      go_light
      go_simp
      exact ⟨γ, SR.refl _ _ _, fun _ _ _ h => h, rfl⟩
    · refine LinStep.yes fun vals γ w' ρ hR hN hp hρ hc hf hg => ⟨rfl, ?_⟩
      have hi := hR.inv ⟨by omega, (Ext.refl w2).drew⟩
      have e52 : ρ (.tmp 52) = _ := (hρ 52).trans (hp 3 (by decide))
      clear hR hN hp hρ hi
      go_light
      go_simp
      exact ⟨γ, SR.refl _ _ _, fun _ _ _ h => h, rfl⟩
    · refine LinStep.yes fun vals γ w' ρ hR hN hp hρ hc hf hg => ⟨rfl, ?_⟩
      have hi := hR.inv ⟨by omega, (Ext.refl w2).drew⟩
      have e50 : ρ (.tmp 50) = _ := (hρ 50).trans (hp 1 (by decide))
      have e53 : ρ (.tmp 53) = _ := (hρ 53).trans (hp 4 (by decide))
      have i1 : ¬ n = 0 := by omega
      clear hR hN hp hρ hi
      go_light
      go_simp
      exact ⟨γ, SR.refl _ _ _, fun _ _ _ h => h, rfl⟩
    · refine LinStep.yes fun vals γ w' ρ hR hN hp hρ hc hf hg => ⟨rfl, ?_⟩
      have hi := hR.inv ⟨by omega, (Ext.refl w2).drew⟩
      have e2 : ρ (.tmp 2) = .pointer (some ⟨w.heap.size, 0, none⟩) := hρ 2
      clear hR hN hp hρ hi
      go_light
      go_simp
      exact ⟨γ, SR.refl _ _ _, fun _ _ _ h => h, rfl⟩
    · refine LinStep.yes fun vals γ w' ρ hR hN hp hρ hc hf hg => ⟨rfl, ?_⟩
      have hi := hR.inv ⟨by omega, (Ext.refl w2).drew⟩
      have e55 : ρ (.tmp 55) = _ := (hρ 55).trans (hp 6 (by decide))
      have k1 := hi.2.cell D2.out
      clear hR hN hp hρ hi
      go_light
      go_simp
      exact ⟨γ, SR.refl _ _ _, fun _ _ _ h => h, rfl⟩
    · refine LinStep.yes fun vals γ w' ρ hR hN hp hρ hc hf hg => ⟨rfl, ?_⟩
      have hi := hR.inv ⟨by omega, (Ext.refl w2).drew⟩
      have e56 : ρ (.tmp 56) = _ := (hρ 56).trans (hp 7 (by decide))
      clear hR hN hp hρ hi
      go_light
      go_simp
      exact ⟨γ, SR.refl _ _ _, fun _ _ _ h => h, rfl⟩
    · refine LinStep.yes fun vals γ w' ρ hR hN hp hρ hc hf hg => ⟨rfl, ?_⟩
      have hi := hR.inv ⟨by omega, (Ext.refl w2).drew⟩
      have e54 : ρ (.tmp 54) = _ := (hρ 54).trans (hp 5 (by decide))
      have e57 : ρ (.tmp 57) = _ := (hρ 57).trans (hp 8 (by decide))
      have i2 := HKW.out
      clear hR hN hp hρ hi
      go_light
      go_simp
      exact ⟨γ, SR.refl _ _ _, fun _ _ _ h => h, rfl⟩
    · refine LinStep.yes fun vals γ w' ρ hR hN hp hρ hc hf hg => ⟨rfl, ?_⟩
      have hi := hR.inv ⟨by omega, (Ext.refl w2).drew⟩
      have e2 : ρ (.tmp 2) = .pointer (some ⟨w.heap.size, 0, none⟩) := hρ 2
      clear hR hN hp hρ hi
      go_light
      go_simp
      exact ⟨γ, SR.refl _ _ _, fun _ _ _ h => h, rfl⟩
    · refine LinStep.yes fun vals γ w' ρ hR hN hp hρ hc hf hg => ⟨rfl, ?_⟩
      have hi := hR.inv ⟨by omega, (Ext.refl w2).drew⟩
      have e59 : ρ (.tmp 59) = _ := (hρ 59).trans (hp 10 (by decide))
      have k1 := hi.2.cell D2.out
      clear hR hN hp hρ hi
      go_light
      go_simp
      exact ⟨γ, SR.refl _ _ _, fun _ _ _ h => h, rfl⟩
    · refine LinStep.yes fun vals γ w' ρ hR hN hp hρ hc hf hg => ⟨rfl, ?_⟩
      have hi := hR.inv ⟨by omega, (Ext.refl w2).drew⟩
      have e60 : ρ (.tmp 60) = _ := (hρ 60).trans (hp 11 (by decide))
      clear hR hN hp hρ hi
      go_light
      go_simp
      exact ⟨γ, SR.refl _ _ _, fun _ _ _ h => h, rfl⟩
    · refine LinStep.yes fun vals γ w' ρ hR hN hp hρ hc hf hg => ⟨rfl, ?_⟩
      have hi := hR.inv ⟨by omega, (Ext.refl w2).drew⟩
      have e58 : ρ (.tmp 58) = _ := (hρ 58).trans (hp 9 (by decide))
      have e61 : ρ (.tmp 61) = _ := (hρ 61).trans (hp 12 (by decide))
      have i1 : ¬ n = 0 := by omega
      have i2 := HKE.out
      have i3 := HKN.out
      clear hR hN hp hρ hi
      go_light
      go_simp
      exact ⟨γ, SR.refl _ _ _, fun _ _ _ h => h, rfl⟩
    · refine LinStep.yes fun vals γ w' ρ hR hN hp hρ hc hf hg => ⟨rfl, ?_⟩
      have hi := hR.inv ⟨by omega, (Ext.refl w2).drew⟩
      have e62 : ρ (.tmp 62) = _ := (hρ 62).trans (hp 13 (by decide))
      clear hR hN hp hρ hi
      go_light
      go_simp
      exact ⟨γ, SR.refl _ _ _, fun _ _ _ h => h, rfl⟩
    · intro vals γ w' hR hG
      have hi := hR.inv ⟨by omega, (Ext.refl w2).drew⟩
      have h14 : vals 14 = .int .i64 (K : Int) := hG 14 (by decide)
      have HE2 := Lib.hid hi.2
      clear hR hG hi
      simp only [lexFrame, Act.put, List.setIfInBounds_toArray, List.set_cons_succ, List.set_cons_zero, Nat.zero_add, Nat.reduceAdd, h14]
      clear h14
      generalize vals 0 = u0, vals 1 = u1, vals 2 = u2, vals 3 = u3, vals 4 = u4, vals 5 = u5, vals 6 = u6, vals 7 = u7, vals 8 = u8, vals 9 = u9, vals 10 = u10, vals 11 = u11, vals 12 = u12, vals 13 = u13
      go_upto_region 12 with fail
      refine wp_region_lin_lit (by kernel_rfl) dOdF (by kernel_rfl) (SR (OdFInv w w2 q1 q2 Ac cc m ga cr n K J g e0)) (SR.refl _) (SR.trans _) (SN stOdF) (gOdF w w2 q1 q2 Ac cc m ga cr n K J g e0) (gOdF_st _ _ _ _ _ _ _ _ _ _ _ _ _ _) 0 (SN.zero (by decide)) ⟨?_, ?_, ?_, ?_, ?_, ?_, ?_, ?_, ?_, ?_, ?_, ?_, ?_, ?_, ?_, ?_, ?_, ?_, ?_, ?_, ?_, ?_, ?_, ?_, ?_, ?_, ?_, trivial⟩ ?_
      · refine LinStep.yes fun vals γ w' ρ hR hN hp hρ hc hf hg => ⟨rfl, ?_⟩
        have hi := hR.inv ⟨by omega, fun _ => HE2.out.drew⟩
        have e2 : ρ (.tmp 2) = .pointer (some ⟨w.heap.size, 0, none⟩) := hρ 2
        clear hR hN hp hρ hi
        go_light
        go_simp
        exact ⟨γ, SR.refl _ _ _, fun _ _ _ h => h, rfl⟩
      · refine LinStep.yes fun vals γ w' ρ hR hN hp hρ hc hf hg => ⟨rfl, ?_⟩
        have hi := hR.inv ⟨by omega, fun _ => HE2.out.drew⟩
        have e63 : ρ (.tmp 63) = _ := (hρ 63).trans (hp 0 (by decide))
        have k1 := (hi.2 (by have h : γ < 3 := hN; omega)).cell D2.out
        clear hR hN hp hρ hi
        go_light
        go_simp
        exact ⟨γ, SR.refl _ _ _, fun _ _ _ h => h, rfl⟩
      · refine LinStep.yes fun vals γ w' ρ hR hN hp hρ hc hf hg => ⟨rfl, ?_⟩
        have hi := hR.inv ⟨by omega, fun _ => HE2.out.drew⟩
        have e5 : ρ (.tmp 5) = .int .i64 (K : Int) := hρ 5
        clear hR hN hp hρ hi
        go_light
        go_simp
        exact ⟨γ, SR.refl _ _ _, fun _ _ _ h => h, rfl⟩
      · refine LinStep.yes fun vals γ w' ρ hR hN hp hρ hc hf hg => ⟨rfl, ?_⟩
        have hi := hR.inv ⟨by omega, fun _ => HE2.out.drew⟩
        have e64 : ρ (.tmp 64) = _ := (hρ 64).trans (hp 1 (by decide))
        have e65 : ρ (.tmp 65) = _ := (hρ 65).trans (hp 2 (by decide))
        have i0 : (0 : Int) ≤ (K : Int) := by omega
        have i1 : (K : Int) < (n : Int) := by omega
        clear hR hN hp hρ hi
        go_light
        go_simp
        exact ⟨γ, SR.refl _ _ _, fun _ _ _ h => h, rfl⟩
      · refine LinStep.yes fun vals γ w' ρ hR hN hp hρ hc hf hg => ⟨rfl, ?_⟩
        have hi := hR.inv ⟨by omega, fun _ => HE2.out.drew⟩
        have e66 : ρ (.tmp 66) = _ := (hρ 66).trans (hp 3 (by decide))
        have k1 := (hi.2 (by have h : γ < 3 := hN; omega)).cell HHD.out
        clear hR hN hp hρ hi
        go_light
        go_simp
        exact ⟨γ, SR.refl _ _ _, fun _ _ _ h => h, rfl⟩
      · refine LinStep.yes fun vals γ w' ρ hR hN hp hρ hc hf hg => ⟨rfl, ?_⟩
        have hi := hR.inv ⟨by omega, fun _ => HE2.out.drew⟩
        have e3 : ρ (.tmp 3) = .pointer (some ⟨w.heap.size + 1, 0, none⟩) := hρ 3
        clear hR hN hp hρ hi
        go_light
        go_simp
        exact ⟨γ, SR.refl _ _ _, fun _ _ _ h => h, rfl⟩
      · refine LinStep.yes fun vals γ w' ρ hR hN hp hρ hc hf hg => ⟨rfl, ?_⟩
        have hi := hR.inv ⟨by omega, fun _ => HE2.out.drew⟩
        have e68 : ρ (.tmp 68) = _ := (hρ 68).trans (hp 5 (by decide))
        have k1 := (hi.2 (by have h : γ < 3 := hN; omega)).cell G2.out
        clear hR hN hp hρ hi
        go_light
        go_simp
        exact ⟨γ, SR.refl _ _ _, fun _ _ _ h => h, rfl⟩
      · refine LinStep.yes fun vals γ w' ρ hR hN hp hρ hc hf hg => ⟨rfl, ?_⟩
        have hi := hR.inv ⟨by omega, fun _ => HE2.out.drew⟩
        have e2 : ρ (.tmp 2) = .pointer (some ⟨w.heap.size, 0, none⟩) := hρ 2
        clear hR hN hp hρ hi
        go_light
        go_simp
        exact ⟨γ, SR.refl _ _ _, fun _ _ _ h => h, rfl⟩
      · refine LinStep.yes fun vals γ w' ρ hR hN hp hρ hc hf hg => ⟨rfl, ?_⟩
        have hi := hR.inv ⟨by omega, fun _ => HE2.out.drew⟩
        have e70 : ρ (.tmp 70) = _ := (hρ 70).trans (hp 7 (by decide))
        have k1 := (hi.2 (by have h : γ < 3 := hN; omega)).cell D1.out
        clear hR hN hp hρ hi
        go_light
        go_simp
        exact ⟨γ, SR.refl _ _ _, fun _ _ _ h => h, rfl⟩
      · refine LinStep.yes fun vals γ w' ρ hR hN hp hρ hc hf hg => ⟨rfl, ?_⟩
        have hi := hR.inv ⟨by omega, fun _ => HE2.out.drew⟩
        have e71 : ρ (.tmp 71) = _ := (hρ 71).trans (hp 8 (by decide))
        clear hR hN hp hρ hi
        go_light
        go_simp
        exact ⟨γ, SR.refl _ _ _, fun _ _ _ h => h, rfl⟩
      · refine LinStep.yes fun vals γ w' ρ hR hN hp hρ hc hf hg => ⟨rfl, ?_⟩
        have hi := hR.inv ⟨by omega, fun _ => HE2.out.drew⟩
        have e69 : ρ (.tmp 69) = _ := (hρ 69).trans (hp 6 (by decide))
        have e72 : ρ (.tmp 72) = _ := (hρ 72).trans (hp 9 (by decide))
        have i1 : ¬ m = 0 := by omega
        clear hR hN hp hρ hi
        go_light
        go_simp
        exact ⟨γ, SR.refl _ _ _, fun _ _ _ h => h, rfl⟩
      · refine LinStep.yes fun vals γ w' ρ hR hN hp hρ hc hf hg => ⟨rfl, ?_⟩
        have hi := hR.inv ⟨by omega, fun _ => HE2.out.drew⟩
        have e2 : ρ (.tmp 2) = .pointer (some ⟨w.heap.size, 0, none⟩) := hρ 2
        clear hR hN hp hρ hi
        go_light
        go_simp
        exact ⟨γ, SR.refl _ _ _, fun _ _ _ h => h, rfl⟩
      · refine LinStep.yes fun vals γ w' ρ hR hN hp hρ hc hf hg => ⟨rfl, ?_⟩
        have hi := hR.inv ⟨by omega, fun _ => HE2.out.drew⟩
        have e74 : ρ (.tmp 74) = _ := (hρ 74).trans (hp 11 (by decide))
        have k1 := (hi.2 (by have h : γ < 3 := hN; omega)).cell D1.out
        clear hR hN hp hρ hi
        go_light
        go_simp
        exact ⟨γ, SR.refl _ _ _, fun _ _ _ h => h, rfl⟩
      · refine LinStep.yes fun vals γ w' ρ hR hN hp hρ hc hf hg => ⟨rfl, ?_⟩
        have hi := hR.inv ⟨by omega, fun _ => HE2.out.drew⟩
        have e75 : ρ (.tmp 75) = _ := (hρ 75).trans (hp 12 (by decide))
        clear hR hN hp hρ hi
        go_light
        go_simp
        exact ⟨γ, SR.refl _ _ _, fun _ _ _ h => h, rfl⟩
      · refine LinStep.yes fun vals γ w' ρ hR hN hp hρ hc hf hg => ⟨rfl, ?_⟩
        have hi := hR.inv ⟨by omega, fun _ => HE2.out.drew⟩
        have e73 : ρ (.tmp 73) = _ := (hρ 73).trans (hp 10 (by decide))
        have e76 : ρ (.tmp 76) = _ := (hρ 76).trans (hp 13 (by decide))
        have i2 := HJW.out
        clear hR hN hp hρ hi
        go_light
        go_simp
        exact ⟨γ, SR.refl _ _ _, fun _ _ _ h => h, rfl⟩
      · refine LinStep.yes fun vals γ w' ρ hR hN hp hρ hc hf hg => ⟨rfl, ?_⟩
        have hi := hR.inv ⟨by omega, fun _ => HE2.out.drew⟩
        have e2 : ρ (.tmp 2) = .pointer (some ⟨w.heap.size, 0, none⟩) := hρ 2
        clear hR hN hp hρ hi
        go_light
        go_simp
        exact ⟨γ, SR.refl _ _ _, fun _ _ _ h => h, rfl⟩
      · refine LinStep.yes fun vals γ w' ρ hR hN hp hρ hc hf hg => ⟨rfl, ?_⟩
        have hi := hR.inv ⟨by omega, fun _ => HE2.out.drew⟩
        have e78 : ρ (.tmp 78) = _ := (hρ 78).trans (hp 15 (by decide))
        have k1 := (hi.2 (by have h : γ < 3 := hN; omega)).cell D1.out
        clear hR hN hp hρ hi
        go_light
        go_simp
        exact ⟨γ, SR.refl _ _ _, fun _ _ _ h => h, rfl⟩
      · refine LinStep.yes fun vals γ w' ρ hR hN hp hρ hc hf hg => ⟨rfl, ?_⟩
        have hi := hR.inv ⟨by omega, fun _ => HE2.out.drew⟩
        have e79 : ρ (.tmp 79) = _ := (hρ 79).trans (hp 16 (by decide))
        clear hR hN hp hρ hi
        go_light
        go_simp
        exact ⟨γ, SR.refl _ _ _, fun _ _ _ h => h, rfl⟩
      · refine LinStep.yes fun vals γ w' ρ hR hN hp hρ hc hf hg => ⟨rfl, ?_⟩
        have hi := hR.inv ⟨by omega, fun _ => HE2.out.drew⟩
        have e77 : ρ (.tmp 77) = _ := (hρ 77).trans (hp 14 (by decide))
        have e80 : ρ (.tmp 80) = _ := (hρ 80).trans (hp 17 (by decide))
        have i1 : ¬ m = 0 := by omega
        have i2 := HJE.out
        have i3 := HJN.out
        clear hR hN hp hρ hi
        go_light
        go_simp
        exact ⟨γ, SR.refl _ _ _, fun _ _ _ h => h, rfl⟩
      · refine LinStep.yes fun vals γ w' ρ hR hN hp hρ hc hf hg => ⟨rfl, ?_⟩
        have hi := hR.inv ⟨by omega, fun _ => HE2.out.drew⟩
        have e3 : ρ (.tmp 3) = .pointer (some ⟨w.heap.size + 1, 0, none⟩) := hρ 3
        clear hR hN hp hρ hi
        go_light
        go_simp
        exact ⟨γ, SR.refl _ _ _, fun _ _ _ h => h, rfl⟩
      · refine LinStep.yes fun vals γ w' ρ hR hN hp hρ hc hf hg => ⟨rfl, ?_⟩
        have hi := hR.inv ⟨by omega, fun _ => HE2.out.drew⟩
        have e82 : ρ (.tmp 82) = _ := (hρ 82).trans (hp 19 (by decide))
        have k1 := (hi.2 (by have h : γ < 3 := hN; omega)).cell G1.out
        clear hR hN hp hρ hi
        go_light
        go_simp
        exact ⟨γ, SR.refl _ _ _, fun _ _ _ h => h, rfl⟩
      · refine LinStep.yes fun vals γ w' ρ hR hN hp hρ hc hf hg => ⟨rfl, ?_⟩
        have hi := hR.inv ⟨by omega, fun _ => HE2.out.drew⟩
        have e3 : ρ (.tmp 3) = .pointer (some ⟨w.heap.size + 1, 0, none⟩) := hρ 3
        clear hR hN hp hρ hi
        go_light
        go_simp
        exact ⟨γ, SR.refl _ _ _, fun _ _ _ h => h, rfl⟩
      · refine LinStep.yes fun vals γ w' ρ hR hN hp hρ hc hf hg => ⟨rfl, ?_⟩
        have hi := hR.inv ⟨by omega, fun _ => HE2.out.drew⟩
        have e84 : ρ (.tmp 84) = _ := (hρ 84).trans (hp 21 (by decide))
        have k1 := (hi.2 (by have h : γ < 3 := hN; omega)).cell G2.out
        clear hR hN hp hρ hi
        go_light
        go_simp
        exact ⟨γ, SR.refl _ _ _, fun _ _ _ h => h, rfl⟩
      · refine LinStep.yes fun vals γ w' ρ hR hN hp hρ hc hf hg => ⟨rfl, ?_⟩
        have hi := hR.inv ⟨by omega, fun _ => HE2.out.drew⟩
        have e83 : ρ (.tmp 83) = _ := (hρ 83).trans (hp 20 (by decide))
        have e85 : ρ (.tmp 85) = _ := (hρ 85).trans (hp 22 (by decide))
        have h0 : γ = 0 := by have h : γ < 1 := hN; omega
        subst h0
        have HX := Lib.hid (hi.2 (by omega))
        clear hR hN hp hρ hi
        go_light
        go_simp
        exact ⟨1, SR.up (by omega) ⟨by omega, fun _ => HX.out.alloc _⟩, SN.up (by omega) (by decide) rfl, _, rfl, by omega, fun _ => Blk.new _ _ _⟩
      · refine LinStep.yes fun vals γ w' ρ hR hN hp hρ hc hf hg => ⟨rfl, ?_⟩
        have hi := hR.inv ⟨by omega, fun _ => HE2.out.drew⟩
        obtain ⟨gg, g23, hr1, hbk⟩ := hp 23 (by decide)
        have e86 : ρ (.tmp 86) = _ := (hρ 86).trans g23
        have h0 : γ = 1 := by have h : γ < 2 := hN; omega
        subst h0
        have HX := Lib.hid (hi.2 (by omega))
        have HBK := Lib.hid (hbk rfl)
        clear hR hN hp hρ hi g23 hbk
        go_light
        go_simp
        refine (r06_Made [q1, q2] (by simp) (some ⟨gg, 0, none⟩) 2 w' (fun _ => True) ⟨HBK.out.rd.mono fun _ _ _ => trivial, by simp⟩).mono ?_
        rintro e' w3 ⟨x, A1, c1, B1, e1, he, hcp, hv, hx3⟩
        exact ⟨_, he, 2, SR.up (by omega) ⟨by omega, fun _ => HX.out.trans hx3⟩, SN.up (by omega) (by decide) rfl, x, A1, c1, B1, e1, rfl, by omega, fun _ => ⟨hcp, hv.mono fun b _ hb => Nat.le_trans HX.out.size hb⟩⟩
      · refine LinStep.yes fun vals γ w' ρ hR hN hp hρ hc hf hg => ⟨rfl, ?_⟩
        have hi := hR.inv ⟨by omega, fun _ => HE2.out.drew⟩
        have e67 : ρ (.tmp 67) = _ := (hρ 67).trans (hp 4 (by decide))
        have e81 : ρ (.tmp 81) = _ := (hρ 81).trans (hp 18 (by decide))
        have i0 : (0 : Int) ≤ (J : Int) := by omega
        have i1 : (J : Int) < (m : Int) := by omega
        clear hR hN hp hρ hi
        go_light
        go_simp
        exact ⟨γ, SR.refl _ _ _, fun _ _ _ h => h, rfl⟩
      · refine LinStep.yes fun vals γ w' ρ hR hN hp hρ hc hf hg => ⟨rfl, ?_⟩
        have hi := hR.inv ⟨by omega, fun _ => HE2.out.drew⟩
        obtain ⟨x, A1, c1, B1, e1, g24, hr2, hbk⟩ := hp 24 (by decide)
        have e87 : ρ (.tmp 87) = _ := (hρ 87).trans g24
        have e88 : ρ (.tmp 88) = _ := (hρ 88).trans (hp 25 (by decide))
        have h0 : γ = 2 := by have h : γ < 3 := hN; omega
        subst h0
        have hx := hi.2 (by omega)
        obtain ⟨⟨x0, x1, x2, x3, x4, x5, x6, p0, p1, p2, p3, p4, p5, p6⟩, pf, pz⟩ := HST.out w' hx
        have HX := Lib.hid hx
        have HBK := Lib.hid (hbk rfl)
        clear hR hN hp hρ hi hx g24 hbk
        go_light
        go_simp
        exact ⟨3, SR.up (by omega) ⟨by omega, fun h => absurd h (by omega)⟩, SN.up (by omega) (by decide) rfl, by omega, fun _ => ⟨w', x, A1, c1, B1, e1, HX.out, HBK.out.1, HBK.out.2, rfl⟩⟩
      · intro vals γ w'' hR hG
        have hi := hR.inv ⟨by omega, fun _ => HE2.out.drew⟩
        obtain ⟨h4, h5⟩ := hG 26 (by decide)
        obtain ⟨w3, x, A1, c1, B1, e1, hx3, hcp3, hv3, hw3⟩ := h5 (by have := hi.1; omega)
        have HX3 := Lib.hid hx3
        have HV3 := Lib.hid hv3
        have HW3 := Lib.hid hw3
        clear hR hG hi h4 h5 hx3 hv3 hw3
        simp only [lexFrame, Act.put, List.setIfInBounds_toArray, List.set_cons_succ, List.set_cons_zero, Nat.zero_add, Nat.reduceAdd]
        generalize vals 0 = z0, vals 1 = z1, vals 2 = z2, vals 3 = z3, vals 4 = z4, vals 5 = z5, vals 6 = z6, vals 7 = z7, vals 8 = z8, vals 9 = z9, vals 10 = z10, vals 11 = z11, vals 12 = z12, vals 13 = z13, vals 14 = z14, vals 15 = z15, vals 16 = z16, vals 17 = z17, vals 18 = z18, vals 19 = z19, vals 20 = z20, vals 21 = z21, vals 22 = z22, vals 23 = z23, vals 24 = z24, vals 25 = z25, vals 26 = z26
        go_upto_region 27 with fail
        obtain ⟨wf, hwf⟩ : ∃ wf, wf = w'' := ⟨_, rfl⟩
        have HF := Lib.hid (show ∃ (t : Look) (A : Option Addr) (c : Nat) (B : Option Addr) (e : Nat), OF w t A c B e wf by rw [hwf]; exact odd3_fin HM.out HX3.out hcp3 HV3.out HW3.out hnm (by omega) hKn (by rw [HRL.out]; omega) (by rw [HRL.out]; omega) HV1.out HX1.out HSC.out HCL.out)
        rw [← hwf]
        clear hwf
        obtain ⟨t', A', c', B', e', hf⟩ := HF.out
        have HF := Lib.hid hf
        have f0 := hf.box.cell (i := 0) rfl
        have f1 := hf.box.cell (i := 1) rfl
        have f2 := hf.box.cell (i := 2) rfl
        have r0 := hf.res.cell (i := 0) rfl
        have r1 := hf.res.cell (i := 1) rfl
        have r2 := hf.res.cell (i := 2) rfl
        have rf := hf.res.frozen
        have rz := hf.res.lt
        clear hf d0 d1 d2 df dz g0 g1 g2 gz
        go_wp2
        all_goals refine bodyPost_ret (v := (.agg #[.string t'.name, .slice A' t'.cols.length c', .slice B' t'.rows.length e'])) (by simp [results, Tryz.results11, go_sem, r0, r1, r2]) rfl ⟨t', A', c', B', e', rfl, HF.out.cap, RL.mono (RL.keep HF.out.rl (K3 ?_)) fun b _ hb => by unfold Fresh; omega, E3 ?_⟩
        all_goals first | exact ⟨HF.out.ext, by omega⟩ | omega
  · have h1 : rows.length = 0 := by omega
    go_upto_region 27 with fail
    obtain ⟨wf, hwf⟩ : ∃ wf, wf = w2 := ⟨_, rfl⟩
    have HF := Lib.hid (show ∃ (t : Look) (A : Option Addr) (c : Nat) (B : Option Addr) (e : Nat), OF w t A c B e wf by rw [hwf]; exact ⟨_, _, _, _, _, HM.out.fin hnm (by omega) (by omega) HR4.out⟩)
    rw [← hwf]
    clear hwf
    obtain ⟨t', A', c', B', e', hf⟩ := HF.out
    have HF := Lib.hid hf
    have f0 := hf.box.cell (i := 0) rfl
    have f1 := hf.box.cell (i := 1) rfl
    have f2 := hf.box.cell (i := 2) rfl
    have r0 := hf.res.cell (i := 0) rfl
    have r1 := hf.res.cell (i := 1) rfl
    have r2 := hf.res.cell (i := 2) rfl
    have rf := hf.res.frozen
    have rz := hf.res.lt
    clear hf d0 d1 d2 df dz g0 g1 g2 gz
    go_wp2
    all_goals refine bodyPost_ret (v := (.agg #[.string t'.name, .slice A' t'.cols.length c', .slice B' t'.rows.length e'])) (by simp [results, Tryz.results11, go_sem, r0, r1, r2]) rfl ⟨t', A', c', B', e', rfl, HF.out.cap, RL.mono (RL.keep HF.out.rl (K3 ?_)) fun b _ hb => by unfold Fresh; omega, E3 ?_⟩
    all_goals first | exact ⟨HF.out.ext, by omega⟩ | omega
end Go.Proofs.YtcmmkeiiapbgcaaGreatDoor
/- The reference's Odd: some table, in new memory. Names of columns. A table that Made makes is right. Conditions: the table reads as data, and is regular. -/
namespace Go.Proofs.YtcmmkeiiapbgcaaGreatDoor
open Go Go.RowKit

theorem r09_Odd (t : Look) (A B : Option Addr) (c e : Nat) (q0 q1 q2 : Int) (w : World) (S : Nat → Prop) (h : RL w S 2 t A B) (ht : OkT t) : Calls Tryz.prog 11 #[(.agg #[.string t.name, .slice A t.cols.length c, .slice B t.rows.length e]), .agg #[.int .i64 q0, .int .i64 q1, .int .i64 q2]] w (RetOd w) := by
  obtain ⟨hb1, hb2⟩ := next_bd q0 8 (by omega)
  obtain ⟨hc1, hc2⟩ := next_bd q1 4 (by omega)
  obtain ⟨hd1, hd2⟩ := next_bd q1 8 (by omega)
  have hm : (q0.tmod 8 + 8) % 8 = 0 ∨ (q0.tmod 8 + 8) % 8 = 1 ∨ (q0.tmod 8 + 8) % 8 = 2 ∨ (q0.tmod 8 + 8) % 8 = 3 ∨ (q0.tmod 8 + 8) % 8 = 4 ∨ (q0.tmod 8 + 8) % 8 = 5 ∨ (q0.tmod 8 + 8) % 8 = 6 ∨ (q0.tmod 8 + 8) % 8 = 7 := by omega
  rcases hm with hm | hm | hm | hm | hm | hm | hm | hm
  · have hj : (q1.tmod 4 + 4) % 4 = 0 ∨ (q1.tmod 4 + 4) % 4 = 1 ∨ (q1.tmod 4 + 4) % 4 = 2 ∨ (q1.tmod 4 + 4) % 4 = 3 := by omega
    rcases hj with hj | hj | hj | hj
    · exact odd_0_0 t A B c e q0 q1 q2 w S h ht hm hj
    · exact odd_0_1 t A B c e q0 q1 q2 w S h ht hm hj
    · exact odd_0_2 t A B c e q0 q1 q2 w S h ht hm hj
    · exact odd_0_3 t A B c e q0 q1 q2 w S h ht hm hj
  · exact odd_1 t A B c e q0 q1 q2 w S h ht hm
  · exact odd_2 t A B c e q0 q1 q2 w S h ht hm
  · exact odd_3 t A B c e q0 q1 q2 w S h ht hm
  · exact odd_4 t A B c e q0 q1 q2 w S h ht hm
  · exact odd_5 t A B c e q0 q1 q2 w S h ht hm
  · exact odd_6 t A B c e q0 q1 q2 w S h ht hm ((q1.tmod 8 + 8) % 8).toNat (by omega) (by omega)
  · exact odd_7 t A B c e q0 q1 q2 w S h ht hm

def names6 : List ByteArray := [sCity, sZip, sCountry, sSince, ⟨#[120]⟩, ⟨#[]⟩]
def nameS (k : Int) : ByteArray := names6.getD ((k.tmod 6 + 6) % 6).toNat ⟨#[]⟩
theorem nameS_size (k : Int) : (nameS k).size ≤ 7 := by
  unfold nameS
  generalize ((k.tmod 6 + 6) % 6).toNat = j
  match j with
  | 0 => decide
  | 1 => decide
  | 2 => decide
  | 3 => decide
  | 4 => decide
  | 5 => decide
  | j + 6 => exact Nat.zero_le _
theorem law_names (k : Int) (w : World) : Calls Tryz.prog 13 #[.int .i64 k] w (fun e w' => e = .returned (.string (nameS k)) ∧ Ext w w') := by
  obtain ⟨hb1, hb2⟩ := next_bd k 6 (by omega)
  have hj : (k.tmod 6 + 6) % 6 = 0 ∨ (k.tmod 6 + 6) % 6 = 1 ∨ (k.tmod 6 + 6) % 6 = 2 ∨ (k.tmod 6 + 6) % 6 = 3 ∨ (k.tmod 6 + 6) % 6 = 4 ∨ (k.tmod 6 + 6) % 6 = 5 := by omega
  rcases hj with hj | hj | hj | hj | hj | hj
  all_goals
    go_enter Tryz.func13, Tryz.ntmps13
    go_wp2
    go_ret
    exact ⟨by unfold nameS; rw [hj]; rfl, (Ext.refl w).alloc _⟩
theorem kinds_made (c : Nat) (k : Int) : ∀ (rows : List (List Val)), (∀ r ∈ rows, (r.getD c Val.zero).kind = 0 ∨ (r.getD c Val.zero).kind = k) → ∀ kd, kd = 0 ∨ kd = k → kindsFrom c rows kd = true
  | [], _, _, _ => rfl
  | r :: rs, h, kd, hkd => by
    have h1 := h r List.mem_cons_self
    have ih := kinds_made c k rs fun x hx => h x (List.mem_cons_of_mem _ hx)
    unfold kindsFrom
    split
    · exact ih kd hkd
    · have hk : (r.getD c Val.zero).kind = k := by omega
      rw [if_neg (by omega)]
      exact ih _ (.inr hk)
theorem cellS_kind {k : Int} (h : k = 1 ∨ k = 2 ∨ k = 3) {m : Nat} (hm : m < 5) : ((cellS k m).kind = 0 ∨ (cellS k m).kind = k) ∧ (cellS k m).kind ≠ 5 ∧ flatB (cellS k m) = true := by
  rcases h with rfl | rfl | rfl <;> match m, hm with
    | 0, _ => exact ⟨by decide, by decide, by decide⟩
    | 1, _ => exact ⟨by decide, by decide, by decide⟩
    | 2, _ => exact ⟨by decide, by decide, by decide⟩
    | 3, _ => exact ⟨by decide, by decide, by decide⟩
    | 4, _ => exact ⟨by decide, by decide, by decide⟩
    | n + 5, h => omega
theorem made_right {nm : ByteArray} {t : Look} (h : MadeT nm t) (hn : nameB nm = true) : lookR t = true := by
  obtain ⟨h1, ks, h2, h3, h4, h5, h6, h7, h8⟩ := h
  have hcl : t.cols.length = ks.length := by rw [h4, List.length_take]; have : names4.length = 4 := rfl; omega
  unfold lookR
  simp only [Bool.and_eq_true, decide_eq_true_eq]
  refine ⟨⟨⟨by rw [h1]; exact hn, fun h => by rw [h] at hcl; simp at hcl; omega⟩, ?_⟩, ?_⟩
  · unfold tableR
    simp only [Bool.and_eq_true, decide_eq_true_eq]
    refine ⟨⟨⟨by omega, by omega⟩, ?_⟩, ?_⟩
    · rw [hcl, h4]
      have : ks.length = 1 ∨ ks.length = 2 ∨ ks.length = 3 ∨ ks.length = 4 := by omega
      rcases this with e | e | e | e <;> rw [e] <;> decide
    · rw [List.all_eq_true]
      intro r hr
      obtain ⟨g1, g2⟩ := h8 r hr
      simp only [rowOK, Bool.and_eq_true, decide_eq_true_eq, List.all_eq_true]
      refine ⟨by omega, fun x hx => ?_⟩
      obtain ⟨j, hj, rfl⟩ := List.mem_iff_getElem.1 hx
      obtain ⟨m, hm, e⟩ := g2 j hj (by omega)
      have := cellS_kind (h6 ks[j] (List.getElem_mem (by omega))) hm
      rw [e]
      simp [cellOK, this.2.1, this.2.2]
  · rw [List.all_eq_true]
    intro c hc
    rw [List.mem_range, hcl] at hc
    refine kinds_made c ks[c] t.rows (fun r hr => ?_) 0 (.inl rfl)
    obtain ⟨g1, g2⟩ := h8 r hr
    obtain ⟨m, hm, e⟩ := g2 c (by omega) hc
    rw [List.getD_eq_getElem?_getD, List.getElem?_eq_getElem (by omega), Option.getD_some, e]
    exact (cellS_kind (h6 ks[c] (List.getElem_mem hc)) hm).1
theorem made_ok {nm : ByteArray} {t : Look} (h : MadeT nm t) : OkT t := by
  obtain ⟨h1, ks, h2, h3, h4, h5, h6, h7, h8⟩ := h
  have hcl : t.cols.length = ks.length := by rw [h4, List.length_take]; have : names4.length = 4 := rfl; omega
  exact ⟨by omega, by omega, h7, fun r hr => by rw [(h8 r hr).1, hcl]⟩
end Go.Proofs.YtcmmkeiiapbgcaaGreatDoor
/- What the law's examples come to, reckoned on the plain functions. No conditions. -/
namespace Go.Proofs.YtcmmkeiiapbgcaaGreatDoor
open Go Go.RowKit

def sOslo : ByteArray := ⟨#[79, 115, 108, 111]⟩
def sParis : ByteArray := ⟨#[80, 97, 114, 105, 115]⟩
def sNo : ByteArray := ⟨#[110, 111]⟩
def sA : ByteArray := ⟨#[97]⟩
def sB : ByteArray := ⟨#[98]⟩
def sC : ByteArray := ⟨#[99]⟩
def sN : ByteArray := ⟨#[110]⟩
def wantD : List Dep := [⟨[sCity], sZip⟩, ⟨[sCity], sCountry⟩, ⟨[sZip], sCity⟩, ⟨[sZip], sCountry⟩]
def abD : List Dep := [⟨[sA], sB⟩, ⟨[sB], sC⟩]
def nV : Val := ⟨5, ⟨#[]⟩, 0, 0, 0, [sN], [[numV 3 0], [numV (-5) 0], [numV 4 0]]⟩
set_option maxRecDepth 100000
theorem san_right : lookR citiesT = true := by kernel_rfl
theorem san_find1 : findS citiesT sCity (textV sOslo) sCountry = (textV sNo, 0) := by kernel_rfl
theorem san_find2 : findS citiesT sCity (textV sParis) sCountry = (Val.zero, 18) := by kernel_rfl
theorem san_keys : keysS citiesT.cols citiesT.rows = wantD := by kernel_rfl
theorem san_sum1 : sumS nV sN (-2) 0 = (numV 2 0, 0) := by kernel_rfl
theorem san_sum2 : sumS nV sN 0 0 = (Val.zero, 20) := by kernel_rfl
theorem san_hold1 : holdsS citiesT.cols citiesT.rows [sCountry] sZip = false := by kernel_rfl
theorem san_hold2 : holdsS citiesT.cols citiesT.rows [sCity] sCountry = true := by kernel_rfl
end Go.Proofs.YtcmmkeiiapbgcaaGreatDoor
/- Closures are one: the sorted list is determined. The law's example of one. No conditions. -/
namespace Go.Proofs.YtcmmkeiiapbgcaaGreatDoor
open Go Go.RowKit

theorem sortS_perm {k k' : List ByteArray} (h : k.Perm k') : sortS k = sortS k' := by
  unfold sortS
  rw [sort_perm (h.map _)]
theorem IsClosure.mem {l : List Dep} {frm ks ks' : List ByteArray} (h : IsClosure l frm ks) (h' : IsClosure l frm ks') (x : ByteArray) : x ∈ ks ↔ x ∈ ks' :=
  ⟨fun hx => h.least (· ∈ ks') h'.base h'.closed x hx, fun hx => h'.least (· ∈ ks) h.base h.closed x hx⟩
theorem IsClosure.one {l : List Dep} {frm ks ks' : List ByteArray} (h : IsClosure l frm ks) (h' : IsClosure l frm ks') : sortS ks = sortS ks' :=
  sortS_perm ((List.perm_ext_iff_of_nodup h.nodup h'.nodup).2 (h.mem h'))
theorem san_clos0 : IsClosure abD [sA] [sA, sB, sC] := by
  refine ⟨by decide, by simp, ?_, ?_⟩
  · intro d hd _
    simp only [abD, List.mem_cons, List.not_mem_nil, or_false] at hd
    rcases hd with rfl | rfl <;> simp
  · intro T h1 h2 x hx
    have ha : T sA := h1 sA (by simp)
    have hb : T sB := h2 ⟨[sA], sB⟩ (by simp [abD]) (by simpa using ha)
    have hc : T sC := h2 ⟨[sB], sC⟩ (by simp [abD]) (by simpa using hb)
    simp only [List.mem_cons, List.not_mem_nil, or_false] at hx
    rcases hx with rfl | rfl | rfl
    · exact ha
    · exact hb
    · exact hc
theorem san_sort : sortS [sA, sB, sC] = [sA, sB, sC] := by
  unfold sortS sA sB sC
  have h1 : ([97] : List UInt8) ≤ [98] := by decide
  have h2 : ([97] : List UInt8) ≤ [99] := by decide
  have h3 : ([98] : List UInt8) ≤ [99] := by decide
  simp [List.mergeSort, List.MergeSort.Internal.splitInTwo, h1, h2, h3]
theorem san_clos {ks : List ByteArray} (h : IsClosure abD [sA] ks) : sortS ks = [sA, sB, sC] := (h.one san_clos0).trans san_sort
end Go.Proofs.YtcmmkeiiapbgcaaGreatDoor
/- What the literals of the law's sanity lay into memory. No conditions. -/
namespace Go.Proofs.YtcmmkeiiapbgcaaGreatDoor
open Go Go.RowKit

theorem RDeps.build {w : World} {S : Nat → Prop} {g t : Nat} {cs : Array Value} {l : List Dep} (h : Blk w g t cs) (hs : cs.size = l.length * 2) (hg : S g) (hl : l.length ≤ 4294967296)
    (hr : ∀ (i : Nat) (d : Dep), l[i]? = some d → ∃ (B : Option Addr) (c : Nat), cs[i * 2]? = some (.slice B d.frm.length c) ∧ cs[i * 2 + 1]? = some (.string d.to) ∧ d.frm.length ≤ c ∧ d.to.size ≤ 4294967296 ∧ Strs w S B d.frm) : RDeps w S (some ⟨g, 0, none⟩) l := by
  refine ⟨hl, cs.toList, h.rd.mono (fun i _ hi => hi ▸ hg), by simpa using hs, fun i d hd => ?_⟩
  obtain ⟨B, c, h1, h2, h3⟩ := hr i d hd
  exact ⟨B, c, by simpa using h1, by simpa using h2, h3⟩
theorem Strs.one {w : World} {S : Nat → Prop} {g t : Nat} {s : ByteArray} (h : Blk w g t #[.string s]) (hs : s.size ≤ 4294967296) (hg : S g) : Strs w S (some ⟨g, 0, none⟩) [s] :=
  (Strs.of_blk h rfl (by simp) (by intro x hx; simp at hx; subst hx; exact hs)).mono fun _ _ hi => hi ▸ hg
/-- What five allocs lay. -/
theorem blk_at (w : World) (t : Nat) (cs : Array Value) {n : Nat} (hn : w.heap.size = n) : Blk (w.alloc (.cells cs t)) n t cs := hn ▸ Blk.new w t cs
def w5a (v : World) : World := ((((v.alloc (.cells #[.string sCity] 9)).alloc (.cells #[.string sCity] 9)).alloc (.cells #[.string sZip] 9)).alloc (.cells #[.string sZip] 9)).alloc
  (.cells #[.slice (some ⟨v.heap.size, 0, none⟩) 1 1, .string sZip, .slice (some ⟨v.heap.size + 1, 0, none⟩) 1 1, .string sCountry, .slice (some ⟨v.heap.size + 1 + 1, 0, none⟩) 1 1, .string sCity, .slice (some ⟨v.heap.size + 1 + 1 + 1, 0, none⟩) 1 1, .string sCountry] 52)
theorem w5a_ext (v : World) : Ext v (w5a v) := (((((Ext.refl v).alloc _).alloc _).alloc _).alloc _).alloc _
theorem w5a_mem (v : World) : RDeps (w5a v) (fun b => v.heap.size ≤ b) (some ⟨v.heap.size + 1 + 1 + 1 + 1, 0, none⟩) wantD := by
  have b1 : Blk (w5a v) v.heap.size 9 #[.string sCity] := ((((Blk.new v 9 #[.string sCity]).keep (Kept.alloc _ _ _)).keep (Kept.alloc _ _ _)).keep (Kept.alloc _ _ _)).keep (Kept.alloc _ _ _)
  have b2 : Blk (w5a v) (v.heap.size + 1) 9 #[.string sCity] := (((blk_at _ 9 #[.string sCity] (by simp)).keep (Kept.alloc _ _ _)).keep (Kept.alloc _ _ _)).keep (Kept.alloc _ _ _)
  have b3 : Blk (w5a v) (v.heap.size + 1 + 1) 9 #[.string sZip] := ((blk_at _ 9 #[.string sZip] (by simp)).keep (Kept.alloc _ _ _)).keep (Kept.alloc _ _ _)
  have b4 : Blk (w5a v) (v.heap.size + 1 + 1 + 1) 9 #[.string sZip] := (blk_at _ 9 #[.string sZip] (by simp)).keep (Kept.alloc _ _ _)
  have b5 := blk_at ((((v.alloc (.cells #[.string sCity] 9)).alloc (.cells #[.string sCity] 9)).alloc (.cells #[.string sZip] 9)).alloc (.cells #[.string sZip] 9)) 52 #[.slice (some ⟨v.heap.size, 0, none⟩) 1 1, .string sZip, .slice (some ⟨v.heap.size + 1, 0, none⟩) 1 1, .string sCountry, .slice (some ⟨v.heap.size + 1 + 1, 0, none⟩) 1 1, .string sCity, .slice (some ⟨v.heap.size + 1 + 1 + 1, 0, none⟩) 1 1, .string sCountry] (n := v.heap.size + 1 + 1 + 1 + 1) (by simp)
  refine RDeps.build (show Blk (w5a v) _ _ _ from b5) rfl (by omega) (by decide) ?_
  intro i d hi
  match i, hi with
  | 0, hi => cases hi; exact ⟨_, 1, rfl, rfl, Nat.le_refl _, by decide, Strs.one b1 (by decide) (by omega)⟩
  | 1, hi => cases hi; exact ⟨_, 1, rfl, rfl, Nat.le_refl _, by decide, Strs.one b2 (by decide) (by omega)⟩
  | 2, hi => cases hi; exact ⟨_, 1, rfl, rfl, Nat.le_refl _, by decide, Strs.one b3 (by decide) (by omega)⟩
  | 3, hi => cases hi; exact ⟨_, 1, rfl, rfl, Nat.le_refl _, by decide, Strs.one b4 (by decide) (by omega)⟩
  | n + 4, hi => simp [wantD] at hi
def w6a (v : World) : World := (((v.alloc (.cells #[.string sA] 9)).alloc (.cells #[.string sB] 9)).alloc (.cells #[.slice (some ⟨v.heap.size, 0, none⟩) 1 1, .string sB, .slice (some ⟨v.heap.size + 1, 0, none⟩) 1 1, .string sC] 52)).alloc (.cells #[.string sA] 9)
theorem w6a_ext (v : World) : Ext v (w6a v) := ((((Ext.refl v).alloc _).alloc _).alloc _).alloc _
theorem w6a_mem (v : World) : RDeps (w6a v) (fun b => v.heap.size ≤ b) (some ⟨v.heap.size + 1 + 1, 0, none⟩) abD ∧ Strs (w6a v) (fun b => v.heap.size ≤ b) (some ⟨v.heap.size + 1 + 1 + 1, 0, none⟩) [sA] := by
  have b1 : Blk (w6a v) v.heap.size 9 #[.string sA] := (((Blk.new v 9 #[.string sA]).keep (Kept.alloc _ _ _)).keep (Kept.alloc _ _ _)).keep (Kept.alloc _ _ _)
  have b2 : Blk (w6a v) (v.heap.size + 1) 9 #[.string sB] := ((blk_at _ 9 #[.string sB] (by simp)).keep (Kept.alloc _ _ _)).keep (Kept.alloc _ _ _)
  have b3 : Blk (w6a v) (v.heap.size + 1 + 1) 52 #[.slice (some ⟨v.heap.size, 0, none⟩) 1 1, .string sB, .slice (some ⟨v.heap.size + 1, 0, none⟩) 1 1, .string sC] := (blk_at _ 52 _ (by simp)).keep (Kept.alloc _ _ _)
  have b4 : Blk (w6a v) (v.heap.size + 1 + 1 + 1) 9 #[.string sA] := blk_at _ 9 #[.string sA] (by simp)
  refine ⟨RDeps.build b3 rfl (by omega) (by decide) ?_, Strs.one b4 (by decide) (by omega)⟩
  intro i d hi
  match i, hi with
  | 0, hi => cases hi; exact ⟨_, 1, rfl, rfl, Nat.le_refl _, by decide, Strs.one b1 (by decide) (by omega)⟩
  | 1, hi => cases hi; exact ⟨_, 1, rfl, rfl, Nat.le_refl _, by decide, Strs.one b2 (by decide) (by omega)⟩
  | n + 2, hi => simp [abD] at hi
theorem keep3 {w w' : World} {p0 p1 p2 : Addr} {v0 v1 v2 : Value} (h : Ext w w') (h0 : w.cell? p0 = some v0) (h1 : w.cell? p1 = some v1) (h2 : w.cell? p2 = some v2) :
    w'.cell? p0 = some v0 ∧ w'.cell? p1 = some v1 ∧ w'.cell? p2 = some v2 := ⟨h.cell h0, h.cell h1, h.cell h2⟩
theorem RV.flat {w : World} {S : Nat → Prop} {d : Nat} {y : Val} {A B : Option Addr} (h : flatV y) : RV w S d y A B := RV.mk h.2.2 (by rw [h.1]; exact Strs.nil) (by rw [h.2.1]; exact Rows.nil)
def noV : Val := textV sNo
theorem rown (n : Int) {w : World} {g t : Nat} {S : Nat → Prop} (h : Blk w g t (rowC [numV n 0])) (hg : S g) : Row w S 1 (some ⟨g, 0, none⟩) [numV n 0] := by
  refine (Row.flat h rfl (fun y hy => ?_) (by omega) (by simp)).mono fun _ _ hi => hi ▸ hg
  simp only [List.mem_cons, List.not_mem_nil, or_false] at hy
  subst hy
  exact flat_num _ _
/-- The table of numbers. -/
theorem nV_mem {v : World} {k a b : Nat} {S : Nat → Prop} (B1 : Blk v k 9 #[.string sN]) (C1 : Blk v a 33 (rowC [numV 3 0])) (C2 : Blk v b 33 (rowC [numV (-5) 0]))
    (h1 : S k) (h2 : S a) (h3 : S b) (h4 : S v.heap.size) (h5 : S (v.heap.size + 1)) :
    RV ((v.alloc (.cells (rowC [numV 4 0]) 33)).alloc (.cells #[.slice (some ⟨a, 0, none⟩) 1 1, .slice (some ⟨b, 0, none⟩) 1 1, .slice (some ⟨v.heap.size, 0, none⟩) 1 1] 45)) S 1 nV (some ⟨k, 0, none⟩) (some ⟨v.heap.size + 1, 0, none⟩) := by
  have x : Ext v ((v.alloc (.cells (rowC [numV 4 0]) 33)).alloc (.cells #[.slice (some ⟨a, 0, none⟩) 1 1, .slice (some ⟨b, 0, none⟩) 1 1, .slice (some ⟨v.heap.size, 0, none⟩) 1 1] 45)) := ((Ext.refl v).alloc _).alloc _
  have C3 := (Blk.new v 33 (rowC [numV 4 0])).keep (Kept.alloc _ _ (.cells #[.slice (some ⟨a, 0, none⟩) 1 1, .slice (some ⟨b, 0, none⟩) 1 1, .slice (some ⟨v.heap.size, 0, none⟩) 1 1] 45))
  have D := blk_at (v.alloc (.cells (rowC [numV 4 0]) 33)) 45 #[.slice (some ⟨a, 0, none⟩) 1 1, .slice (some ⟨b, 0, none⟩) 1 1, .slice (some ⟨v.heap.size, 0, none⟩) 1 1] (n := v.heap.size + 1) (by simp)
  refine RV.mk (by decide) (Strs.one (B1.keep (x.kept _)) (by decide) h1) (Rows.build D rfl h5 (by decide) ?_)
  intro i r hi
  match i, hi with
  | 0, hi => cases hi; exact ⟨_, 1, rfl, Nat.le_refl _, rown _ (C1.keep (x.kept _)) h2⟩
  | 1, hi => cases hi; exact ⟨_, 1, rfl, Nat.le_refl _, rown _ (C2.keep (x.kept _)) h3⟩
  | 2, hi => cases hi; exact ⟨_, 1, rfl, Nat.le_refl _, rown _ C3 h4⟩
  | n + 3, hi => simp [nV] at hi
end Go.Proofs.YtcmmkeiiapbgcaaGreatDoor
