/- What the reference's Odd keeps in memory. No conditions. -/
import Derived.Test.YtcmmkeiiapbgcaaGreatDoorBm8
import Derived.Laws.BytesArg
import Derived.WalkSpells
import Derived.IntWalk
namespace Go.Proofs.YtcmmkeiiapbgcaaGreatDoor
open Go Go.RowKit

/-- The tables that Odd is called with. -/
def OkT (t : Look) : Prop := 1 ≤ t.cols.length ∧ t.cols.length ≤ 4 ∧ t.rows.length ≤ 6 ∧ ∀ r ∈ t.rows, r.length = t.cols.length
/-- Rows of the call's own, ahead of the append of a new one. -/
def RRpush (w : World) (base : Nat) (av : Nat → Prop) (q : Nat) (A : Option Addr) (c : Nat) (l : List (List Val)) (B : Option Addr) (e : Nat) (r : List Val) : Prop :=
  ∃ (hs : List Value) (cut : Nat → Nat) (lo : Nat), Own w base 45 1 A l.length c hs ∧ (∀ i j, i ≤ j → cut i ≤ cut j) ∧ base ≤ cut 0 ∧ cut l.length ≤ lo ∧ lo ≤ w.heap.size ∧ (∀ b, ob A = some b → b < lo) ∧ (∀ b, av b → b < lo) ∧
    (∀ (i : Nat) (r : List Val), l[i]? = some r → ∃ (B : Option Addr) (e : Nat), hs[i]? = some (Value.slice B r.length e) ∧ OwnVs w (cut i) (fun b => cut i ≤ b ∧ b < cut (i + 1) ∧ ob A ≠ some b ∧ ¬ av b) q B e r ∧ ∀ b, ob B = some b → b < cut (i + 1) ∧ ob A ≠ some b ∧ ¬ av b) ∧
    OwnVs w lo (fun b => lo ≤ b) q B e r
section
variable {w w' : World} {base q c e : Nat} {av : Nat → Prop} {A B : Option Addr} {l : List (List Val)} {r : List Val}
theorem RRpush.of (h : OwnRR w base av q A c l) (hav : ∀ b, av b → b < w.heap.size) (hr : OwnVs w' w.heap.size (fun b => w.heap.size ≤ b) q B e r) (hx : Ext w w') : RRpush w' base av q A c l B e r := by
  obtain ⟨hs, cut, h1, h2, h3, h4, h5⟩ := h
  refine ⟨hs, cut, w.heap.size, h1.ext hx, h2, h3, h4, hx.size, fun b hb => (h1.blk hb).2, hav, fun i r hi => ?_, hr⟩
  obtain ⟨B, e, g1, g2, g3⟩ := h5 i r hi
  exact ⟨B, e, g1, g2.ext hx, g3⟩
theorem RRpush.ext (h : RRpush w base av q A c l B e r) (hx : Ext w w') : RRpush w' base av q A c l B e r := by
  obtain ⟨hs, cut, lo, h1, h2, h3, h4, h5, h6, h7, h8, h9⟩ := h
  refine ⟨hs, cut, lo, h1.ext hx, h2, h3, h4, Nat.le_trans h5 hx.size, h6, h7, fun i r hi => ?_, h9.ext hx⟩
  obtain ⟨B, e, g1, g2, g3⟩ := h8 i r hi
  exact ⟨B, e, g1, g2.ext hx, g3⟩
theorem RRpush.use (h : RRpush w base av q A c l B e r) : ∃ hs : List Value, Own w base 45 1 A l.length c hs ∧ ∀ (w' : World) (A' : Option Addr) (c' : Nat), Own w' base 45 1 A' (l.length + 1) c' (hs ++ [Value.slice B r.length e]) → w.grownBy w' (ob A) → (ob A' = ob A ∨ ob A' = some w.heap.size) → OwnRR w' base av q A' c' (l ++ [r]) := by
  obtain ⟨hs, cut, lo, h1, h2, h3, h4, h5, h6, h7, h8, h9⟩ := h
  exact ⟨hs, h1, fun w' A' c' ho hg hat => OwnRR.push h4 h5 h2 h3 (by simpa using h1.len) (fun b hb => ⟨(h1.blk hb).1, h6 b hb⟩) h7 h8 h9 ho hg hat⟩
end
structure OD (w : World) (q0 q1 q2 : Int) (nm : ByteArray) (Ac : Option Addr) (cc : Nat) (cols : List ByteArray) (Ar : Option Addr) (cr : Nat) (rows : List (List Val)) (wr : World) : Prop where
  ext : Ext w wr
  box : Blk wr w.heap.size 28 #[.string nm, .slice Ac cols.length cc, .slice Ar rows.length cr]
  qb : Blk wr (w.heap.size + 1) 23 #[.int .i64 q0, .int .i64 q1, .int .i64 q2]
  res : Blk wr (w.heap.size + 1 + 1) 28 #[.string ⟨#[]⟩, .slice none 0 0, .slice none 0 0]
  cols : OwnSs wr (w.heap.size + 3) Ac cc cols
  rows : OwnRR wr (w.heap.size + 3) (fun b => ob Ac = some b) 2 Ar cr rows
  sep : ∀ b, ob Ac = some b → ob Ar ≠ some b
/-- Behind the append to the rows, ahead of the store. -/
structure ODA (w : World) (q0 q1 q2 : Int) (nm : ByteArray) (Ac : Option Addr) (cc : Nat) (cols : List ByteArray) (Ar : Option Addr) (cr : Nat) (rows : List (List Val)) (wr : World) : Prop where
  ext : Ext w wr
  box : ∃ y, Blk wr w.heap.size 28 #[.string nm, .slice Ac cols.length cc, y]
  qb : Blk wr (w.heap.size + 1) 23 #[.int .i64 q0, .int .i64 q1, .int .i64 q2]
  res : Blk wr (w.heap.size + 1 + 1) 28 #[.string ⟨#[]⟩, .slice none 0 0, .slice none 0 0]
  cols : OwnSs wr (w.heap.size + 3) Ac cc cols
  rows : OwnRR wr (w.heap.size + 3) (fun b => ob Ac = some b) 2 Ar cr rows
  sep : ∀ b, ob Ac = some b → ob Ar ≠ some b
structure OF (w : World) (t : Look) (A : Option Addr) (c : Nat) (B : Option Addr) (e : Nat) (wr : World) : Prop where
  ext : Ext w wr
  box : Blk wr w.heap.size 28 #[.string t.name, .slice A t.cols.length c, .slice B t.rows.length e]
  res : Blk wr (w.heap.size + 1 + 1) 28 #[.string ⟨#[]⟩, .slice none 0 0, .slice none 0 0]
  rl : RL wr (fun b => w.heap.size + 3 ≤ b) 2 t A B
  cap : t.cols.length ≤ c ∧ t.rows.length ≤ e
section
variable {w wr wr' : World} {q0 q1 q2 : Int} {nm : ByteArray} {Ac Ar : Option Addr} {cc cr : Nat} {cols : List ByteArray} {rows : List (List Val)}
theorem OD.more (h : OD w q0 q1 q2 nm Ac cc cols Ar cr rows wr) (hx : Ext wr wr') : OD w q0 q1 q2 nm Ac cc cols Ar cr rows wr' :=
  ⟨h.ext.trans hx, h.box.keep (hx.kept _), h.qb.keep (hx.kept _), h.res.keep (hx.kept _), h.cols.ext hx, h.rows.ext hx, h.sep⟩
theorem OD.fin (h : OD w q0 q1 q2 nm Ac cc cols Ar cr rows wr) (h1 : nm.size ≤ 4294967296) (h2 : cols.length ≤ 4294967296) (h3 : rows.length ≤ 4294967296) (h4 : ∀ r ∈ rows, r.length ≤ 4294967296) : OF w ⟨nm, cols, rows⟩ Ac cc Ar cr wr :=
  ⟨h.ext, h.box, h.res, ⟨h1, h.cols.strs h2 fun _b hb => (h.cols.1.blk hb).1, h.rows.rows h3 h4⟩, h.cols.1.cap, h.rows.cap⟩
/-- The table's variable is written. -/
theorem OF.of (h : OD w q0 q1 q2 nm Ac cc cols Ar cr rows wr) {t : Look} {A B : Option Addr} {c e : Nat} (ho : Only w.heap.size wr wr') (hb : Blk wr' w.heap.size 28 #[.string t.name, .slice A t.cols.length c, .slice B t.rows.length e]) (hrl : RL wr (fun b => w.heap.size + 3 ≤ b) 2 t A B) (hcap : t.cols.length ≤ c ∧ t.rows.length ≤ e) : OF w t A c B e wr' :=
  ⟨h.ext.only ho (by omega), hb, h.res.keep (ho.kept fun b _ e => by omega), hrl.keep (ho.kept fun b _ e => by omega), hcap⟩
/-- Memory beyond the three variables is written. -/
theorem OF.far (h : OD w q0 q1 q2 nm Ac cc cols Ar cr rows wr) (hk : Kept (fun b => b < w.heap.size + 3) wr wr') (hx : Ext w wr') {rows' : List (List Val)} (hl : rows'.length = rows.length) (h1 : nm.size ≤ 4294967296) (hs : Strs wr' (fun b => w.heap.size + 3 ≤ b) Ac cols) (hr : Rows wr' (fun b => w.heap.size + 3 ≤ b) 2 Ar rows') : OF w ⟨nm, cols, rows'⟩ Ac cc Ar cr wr' :=
  ⟨hx, by rw [hl]; exact h.box.keep (hk.mono fun b _ e => by omega), h.res.keep (hk.mono fun b _ e => by omega), ⟨h1, hs, hr⟩, h.cols.1.cap, by rw [hl]; exact h.rows.cap⟩
theorem OF.more {t : Look} {A B : Option Addr} {c e : Nat} (h : OF w t A c B e wr) (hx : Ext wr wr') : OF w t A c B e wr' := ⟨h.ext.trans hx, h.box.keep (hx.kept _), h.res.keep (hx.kept _), h.rl.keep (hx.kept _), h.cap⟩
theorem OD.appR (h : OD w q0 q1 q2 nm Ac cc cols Ar cr rows wr) {A4 : Option Addr} {c4 : Nat} {rows' : List (List Val)} (hg : wr.grownBy wr' (ob Ar)) (hr : OwnRR wr' (w.heap.size + 3) (fun b => ob Ac = some b) 2 A4 c4 rows') (hat : ob A4 = ob Ar ∨ ob A4 = some wr.heap.size) : ODA w q0 q1 q2 nm Ac cc cols A4 c4 rows' wr' := by
  have hlow : ∀ b, ob Ar = some b → w.heap.size + 3 ≤ b := fun b hb => (h.rows.blk hb).1
  have hkb : ∀ g, g < w.heap.size + 3 → Kept (fun b => b = g) wr wr' := fun g hg' => Kept.of_grown hg fun b hb _ e => by
    subst hb
    have := hlow _ e.symm
    omega
  refine ⟨Ext.grown h.ext hg fun b hb => by have := hlow b hb; omega, ⟨_, h.box.keep (hkb _ (by omega))⟩, h.qb.keep (hkb _ (by omega)), h.res.keep (hkb _ (by omega)), ⟨h.cols.1.keep (Kept.of_grown hg fun b hb _ e => h.sep b hb e.symm), h.cols.2⟩, hr, ?_⟩
  intro b hb hb'
  rcases hat with e | e
  · rw [e] at hb'; exact h.sep b hb hb'
  · rw [e] at hb'
    have := (h.cols.1.blk hb).2
    injection hb' with hb'
    omega
theorem ODA.store (h : ODA w q0 q1 q2 nm Ac cc cols Ar cr rows wr) : OD w q0 q1 q2 nm Ac cc cols Ar cr rows (wr.setCell ⟨w.heap.size, 2, none⟩ (.slice Ar rows.length cr)) := by
  obtain ⟨y, hy⟩ := h.box
  have ho := (Only.refl w.heap.size wr).set 2 (.slice Ar rows.length cr)
  refine ⟨h.ext.only ho (by omega), hy.set 2 _, h.qb.keep (ho.kept fun b _ e => by omega), h.res.keep (ho.kept fun b _ e => by omega), ⟨ho.own h.cols.1 (by omega), h.cols.2⟩, h.rows.keep (ho.kept fun b _ e => by omega) (fun b hb hb' => h.sep b hb' hb), h.sep⟩
/-- A column is put to the end. -/
theorem OD.appC (h : OD w q0 q1 q2 nm Ac cc cols Ar cr rows wr) {A4 : Option Addr} {c4 : Nat} {s : ByteArray} (hs : s.size ≤ 4294967296) (h1 : nm.size ≤ 4294967296) (h2 : cols.length < 4294967296) (h3 : rows.length ≤ 4294967296) (h4 : ∀ r ∈ rows, r.length ≤ 4294967296) (hg : wr.grownBy wr' (ob Ac)) (ho : Own wr' (w.heap.size + 3) 9 1 A4 (cols.length + 1) c4 (cols.map Value.string ++ [.string s])) :
    Blk wr' w.heap.size 28 #[.string nm, .slice Ac cols.length cc, .slice Ar rows.length cr] ∧ OF w ⟨nm, cols ++ [s], rows⟩ A4 c4 Ar cr (wr'.setCell ⟨w.heap.size, 1, none⟩ (.slice A4 (cols.length + 1) c4)) := by
  have hlow : ∀ b, ob Ac = some b → w.heap.size + 3 ≤ b := fun b hb => (h.cols.1.blk hb).1
  have hkb : ∀ g, g < w.heap.size + 3 → Kept (fun b => b = g) wr wr' := fun g hg' => Kept.of_grown hg fun b hb _ e => by
    subst hb
    have := hlow _ e.symm
    omega
  have hb := h.box.keep (hkb _ (by omega))
  have hon := (Only.refl w.heap.size wr').set 1 (.slice A4 (cols.length + 1) c4)
  refine ⟨hb, ⟨(Ext.grown h.ext hg fun b hb => by have := hlow b hb; omega).only hon (by omega), ?_, (h.res.keep (hkb _ (by omega))).keep (hon.kept fun b _ e => by omega), ⟨h1, ?_, ?_⟩, by simpa using ho.cap, h.rows.cap⟩⟩
  · have := hb.set 1 (.slice A4 (cols.length + 1) c4)
    simpa using this
  · have hst : Strs wr' (fun b => w.heap.size + 3 ≤ b) A4 (cols ++ [s]) := by
      refine ⟨by rw [List.map_append]; exact ho.rd.mono fun b _ hb => (ho.blk hb).1, by simp; omega, fun x hx => ?_⟩
      rcases List.mem_append.1 hx with hx | hx
      · exact h.cols.2 x hx
      · simp at hx; subst hx; exact hs
    exact hst.keep (hon.kept fun b _ e => by omega)
  · exact ((h.rows.keep (Kept.of_grown hg fun b hb _ e => hb.2 e.symm) fun b hb hb' => h.sep b hb' hb).rows h3 h4).keep (hon.kept fun b _ e => by omega)
end
theorem K3 {w : World} {g n : Nat} {u0 u1 u2 : Value} (h : g < n) : Kept (fun b => n ≤ b) w (((w.setCell ⟨g, 0, none⟩ u0).setCell ⟨g, 1, none⟩ u1).setCell ⟨g, 2, none⟩ u2) := Kept.set2 (Kept.set2 (Kept.set2 (Kept.refl _ _) (by omega)) (by omega)) (by omega)
theorem E3 {a w : World} {g : Nat} {u0 u1 u2 : Value} (h : Ext a w ∧ a.heap.size ≤ g) : Ext a (((w.setCell ⟨g, 0, none⟩ u0).setCell ⟨g, 1, none⟩ u1).setCell ⟨g, 2, none⟩ u2) := ((h.1.set2 h.2 _).set2 h.2 _).set2 h.2 _
def RetOd (w : World) (e : Ending) (w' : World) : Prop := ∃ (t : Look) (A : Option Addr) (c : Nat) (B : Option Addr) (e' : Nat), e = .returned (.agg #[.string t.name, .slice A t.cols.length c, .slice B t.rows.length e']) ∧ (t.cols.length ≤ c ∧ t.rows.length ≤ e') ∧ RL w' (Fresh w) 2 t A B ∧ Ext w w'

set_option maxRecDepth 100000 in
set_option maxHeartbeats 4000000 in
theorem odd_0_0 (t : Look) (A B : Option Addr) (c e : Nat) (q0 q1 q2 : Int) (w : World) (S : Nat → Prop) (h : RL w S 2 t A B) (ht : OkT t) (hm : (q0.tmod 8 + 8) % 8 = 0) (hj : (q1.tmod 4 + 4) % 4 = 0) : Calls Tryz.prog 11 #[(.agg #[.string t.name, .slice A t.cols.length c, .slice B t.rows.length e]), .agg #[.int .i64 q0, .int .i64 q1, .int .i64 q2]] w (RetOd w) := by
  have H := Lib.hid h
  obtain ⟨ht1, ht2, ht3, ht4⟩ := ht
  have HT4 := Lib.hid ht4
  obtain ⟨hb1, hb2⟩ := next_bd q0 8 (by omega)
  have hnm := h.1
  clear h ht4
  obtain ⟨W0, hW0⟩ : ∃ W0, W0 = ((w.alloc (.cells #[.string t.name, .slice A t.cols.length c, .slice B t.rows.length e] 28)).alloc (.cells #[.int .i64 q0, .int .i64 q1, .int .i64 q2] 23)).alloc (.cells #[.string ⟨#[]⟩, .slice none 0 0, .slice none 0 0] 28) := ⟨_, rfl⟩
  have HW0 := Lib.hid hW0
  have hx0 : Ext w W0 := by rw [hW0]; exact (((Ext.refl w).alloc _).alloc _).alloc _
  have b0 : Blk W0 w.heap.size 28 #[.string t.name, .slice A t.cols.length c, .slice B t.rows.length e] := by rw [hW0]; exact ((Blk.new _ _ _).keep (Kept.alloc _ _ _)).keep (Kept.alloc _ _ _)
  have b1 : Blk W0 (w.heap.size + 1) 23 #[.int .i64 q0, .int .i64 q1, .int .i64 q2] := by
    rw [hW0]
    have := (Blk.new (w.alloc (.cells #[.string t.name, .slice A t.cols.length c, .slice B t.rows.length e] 28)) 23 #[.int .i64 q0, .int .i64 q1, .int .i64 q2]).keep (Kept.alloc _ _ (.cells #[.string ⟨#[]⟩, .slice none 0 0, .slice none 0 0] 28))
    simpa using this
  have b2 : Blk W0 (w.heap.size + 1 + 1) 28 #[.string ⟨#[]⟩, .slice none 0 0, .slice none 0 0] := by
    rw [hW0]
    have := Blk.new ((w.alloc (.cells #[.string t.name, .slice A t.cols.length c, .slice B t.rows.length e] 28)).alloc (.cells #[.int .i64 q0, .int .i64 q1, .int .i64 q2] 23)) 28 #[.string ⟨#[]⟩, .slice none 0 0, .slice none 0 0]
    simpa using this
  have hs0 : W0.heap.size = w.heap.size + 3 := by rw [hW0]; simp
  have HX0 := Lib.hid hx0
  have HB0 := Lib.hid b0
  have HB1 := Lib.hid b1
  have HB2 := Lib.hid b2
  have HS0 := Lib.hid hs0
  clear hW0 hx0 b0 b1 b2 hs0
  go_enter Tryz.func11, Tryz.ntmps11
  go_wp2_with fail
  rw [← HW0.out]
  refine (r09_Copy 2 t A B c e W0 S (H.out.keep (HX0.out.kept S))).mono ?_
  rintro e1 w1 ⟨Ac, cc, Ar, cr, rfl, hoc, hor, hsep, hx1⟩
  rw [HS0.out] at hoc hor
  have HM1 := Lib.hid (show OD w q0 q1 q2 t.name Ac cc t.cols Ar cr t.rows (((w1.setCell ⟨w.heap.size, 0, none⟩ (.string t.name)).setCell ⟨w.heap.size, 1, none⟩ (.slice Ac t.cols.length cc)).setCell ⟨w.heap.size, 2, none⟩ (.slice Ar t.rows.length cr)) by
    have ho := (((Only.refl w.heap.size w1).set 0 (.string t.name)).set 1 (.slice Ac t.cols.length cc)).set 2 (.slice Ar t.rows.length cr)
    refine ⟨(HX0.out.trans hx1).only ho (by omega), ?_, (HB1.out.keep (hx1.kept _)).keep (ho.kept fun b _ e => by omega), (HB2.out.keep (hx1.kept _)).keep (ho.kept fun b _ e => by omega), ⟨ho.own hoc.1 (by omega), hoc.2⟩, hor.keep (ho.kept fun b _ e => by omega) (fun b hb hb' => hsep b hb' hb), hsep⟩
    have := (((HB0.out.keep (hx1.kept _)).set 0 (.string t.name)).set 1 (.slice Ac t.cols.length cc)).set 2 (.slice Ar t.rows.length cr)
    simpa using this)
  have q5 := HB0.out.keep (hx1.kept _)
  have k50 := q5.cell (i := 0) rfl
  have k51 := q5.cell (i := 1) rfl
  have k52 := q5.cell (i := 2) rfl
  have kf := q5.frozen
  have kz := q5.lt
  clear hoc hor hsep hx1 q5 HX0 HB0 HB1 HB2 HS0 HW0
  go_upto_region 2 with fail
  obtain ⟨w2, hw2⟩ : ∃ w2, w2 = (((w1.setCell ⟨w.heap.size, 0, none⟩ (.string t.name)).setCell ⟨w.heap.size, 1, none⟩ (.slice Ac t.cols.length cc)).setCell ⟨w.heap.size, 2, none⟩ (.slice Ar t.rows.length cr)) := ⟨_, rfl⟩
  rw [← hw2] at HM1
  rw [← hw2]
  clear hw2 k50 k51 k52 kf kz
  obtain ⟨cols, hcols⟩ : ∃ cols, cols = t.cols := ⟨_, rfl⟩
  obtain ⟨rows, hrows⟩ : ∃ rows, rows = t.rows := ⟨_, rfl⟩
  obtain ⟨nm, hnmE⟩ : ∃ nm, nm = t.name := ⟨_, rfl⟩
  rw [← hcols, ← hrows, ← hnmE] at HM1
  rw [← hcols] at ht1 ht2 HT4
  rw [← hrows] at ht3 HT4
  rw [← hnmE] at hnm
  clear hcols hrows hnmE
  have HM := HM1
  have d0 := HM1.out.box.cell (i := 0) rfl
  have d1 := HM1.out.box.cell (i := 1) rfl
  have d2 := HM1.out.box.cell (i := 2) rfl
  have df := HM1.out.box.frozen
  have dz := HM1.out.box.lt
  have g0 := HM1.out.qb.cell (i := 0) rfl
  have g1 := HM1.out.qb.cell (i := 1) rfl
  have g2 := HM1.out.qb.cell (i := 2) rfl
  have gz := HM1.out.qb.lt
  have HR4 := Lib.hid (show ∀ r ∈ rows, r.length ≤ 4294967296 from fun r hr => by rw [HT4.out r hr]; omega)
  obtain ⟨hc1, hc2⟩ := next_bd q1 4 (by omega)
  go_upto_region 27 with fail
  obtain ⟨wf, hwf⟩ : ∃ wf, wf = ((w2.setCell ⟨w.heap.size, 0, none⟩ (.string ⟨#[]⟩)).alloc (.cells #[.string ⟨#[]⟩, .string ⟨#[111, 116, 104, 101, 114]⟩, .string ⟨#[49, 120]⟩, .string ⟨#[116, 119, 111, 32, 119, 111, 114, 100, 115]⟩] 9)) := ⟨_, rfl⟩
  have HF := Lib.hid (show ∃ (t : Look) (A : Option Addr) (c : Nat) (B : Option Addr) (e : Nat), OF w t A c B e wf by rw [hwf]; exact ⟨⟨⟨#[]⟩, cols, rows⟩, Ac, cc, Ar, cr, OF.more (OF.of HM.out ((Only.refl w.heap.size w2).set 0 (.string ⟨#[]⟩)) (by have := HM.out.box.set 0 (.string ⟨#[]⟩); simpa using this) ⟨(show (⟨#[]⟩ : ByteArray).size ≤ 4294967296 by decide), HM.out.cols.strs (by omega) fun b hb => (HM.out.cols.1.blk hb).1, HM.out.rows.rows (by omega) HR4.out⟩ ⟨HM.out.cols.1.cap, HM.out.rows.cap⟩) ((Ext.refl _).alloc _)⟩)
  rw [← hwf]
  clear hwf
  obtain ⟨t', A', c', B', e', hf⟩ := HF.out
  have HF := Lib.hid hf
  have f0 := hf.box.cell (i := 0) rfl
  have f1 := hf.box.cell (i := 1) rfl
  have f2 := hf.box.cell (i := 2) rfl
  have r0 := hf.res.cell (i := 0) rfl
  have r1 := hf.res.cell (i := 1) rfl
  have r2 := hf.res.cell (i := 2) rfl
  have rf := hf.res.frozen
  have rz := hf.res.lt
  clear hf d0 d1 d2 df dz g0 g1 g2 gz
  go_wp2
  all_goals refine bodyPost_ret (v := (.agg #[.string t'.name, .slice A' t'.cols.length c', .slice B' t'.rows.length e'])) (by simp [results, Tryz.results11, go_sem, r0, r1, r2]) rfl ⟨t', A', c', B', e', rfl, HF.out.cap, RL.mono (RL.keep HF.out.rl (K3 ?_)) fun b _ hb => by unfold Fresh; omega, E3 ?_⟩
  all_goals first | exact ⟨HF.out.ext, by omega⟩ | omega

set_option maxRecDepth 100000 in
set_option maxHeartbeats 4000000 in
theorem odd_0_1 (t : Look) (A B : Option Addr) (c e : Nat) (q0 q1 q2 : Int) (w : World) (S : Nat → Prop) (h : RL w S 2 t A B) (ht : OkT t) (hm : (q0.tmod 8 + 8) % 8 = 0) (hj : (q1.tmod 4 + 4) % 4 = 1) : Calls Tryz.prog 11 #[(.agg #[.string t.name, .slice A t.cols.length c, .slice B t.rows.length e]), .agg #[.int .i64 q0, .int .i64 q1, .int .i64 q2]] w (RetOd w) := by
  have H := Lib.hid h
  obtain ⟨ht1, ht2, ht3, ht4⟩ := ht
  have HT4 := Lib.hid ht4
  obtain ⟨hb1, hb2⟩ := next_bd q0 8 (by omega)
  have hnm := h.1
  clear h ht4
  obtain ⟨W0, hW0⟩ : ∃ W0, W0 = ((w.alloc (.cells #[.string t.name, .slice A t.cols.length c, .slice B t.rows.length e] 28)).alloc (.cells #[.int .i64 q0, .int .i64 q1, .int .i64 q2] 23)).alloc (.cells #[.string ⟨#[]⟩, .slice none 0 0, .slice none 0 0] 28) := ⟨_, rfl⟩
  have HW0 := Lib.hid hW0
  have hx0 : Ext w W0 := by rw [hW0]; exact (((Ext.refl w).alloc _).alloc _).alloc _
  have b0 : Blk W0 w.heap.size 28 #[.string t.name, .slice A t.cols.length c, .slice B t.rows.length e] := by rw [hW0]; exact ((Blk.new _ _ _).keep (Kept.alloc _ _ _)).keep (Kept.alloc _ _ _)
  have b1 : Blk W0 (w.heap.size + 1) 23 #[.int .i64 q0, .int .i64 q1, .int .i64 q2] := by
    rw [hW0]
    have := (Blk.new (w.alloc (.cells #[.string t.name, .slice A t.cols.length c, .slice B t.rows.length e] 28)) 23 #[.int .i64 q0, .int .i64 q1, .int .i64 q2]).keep (Kept.alloc _ _ (.cells #[.string ⟨#[]⟩, .slice none 0 0, .slice none 0 0] 28))
    simpa using this
  have b2 : Blk W0 (w.heap.size + 1 + 1) 28 #[.string ⟨#[]⟩, .slice none 0 0, .slice none 0 0] := by
    rw [hW0]
    have := Blk.new ((w.alloc (.cells #[.string t.name, .slice A t.cols.length c, .slice B t.rows.length e] 28)).alloc (.cells #[.int .i64 q0, .int .i64 q1, .int .i64 q2] 23)) 28 #[.string ⟨#[]⟩, .slice none 0 0, .slice none 0 0]
    simpa using this
  have hs0 : W0.heap.size = w.heap.size + 3 := by rw [hW0]; simp
  have HX0 := Lib.hid hx0
  have HB0 := Lib.hid b0
  have HB1 := Lib.hid b1
  have HB2 := Lib.hid b2
  have HS0 := Lib.hid hs0
  clear hW0 hx0 b0 b1 b2 hs0
  go_enter Tryz.func11, Tryz.ntmps11
  go_wp2_with fail
  rw [← HW0.out]
  refine (r09_Copy 2 t A B c e W0 S (H.out.keep (HX0.out.kept S))).mono ?_
  rintro e1 w1 ⟨Ac, cc, Ar, cr, rfl, hoc, hor, hsep, hx1⟩
  rw [HS0.out] at hoc hor
  have HM1 := Lib.hid (show OD w q0 q1 q2 t.name Ac cc t.cols Ar cr t.rows (((w1.setCell ⟨w.heap.size, 0, none⟩ (.string t.name)).setCell ⟨w.heap.size, 1, none⟩ (.slice Ac t.cols.length cc)).setCell ⟨w.heap.size, 2, none⟩ (.slice Ar t.rows.length cr)) by
    have ho := (((Only.refl w.heap.size w1).set 0 (.string t.name)).set 1 (.slice Ac t.cols.length cc)).set 2 (.slice Ar t.rows.length cr)
    refine ⟨(HX0.out.trans hx1).only ho (by omega), ?_, (HB1.out.keep (hx1.kept _)).keep (ho.kept fun b _ e => by omega), (HB2.out.keep (hx1.kept _)).keep (ho.kept fun b _ e => by omega), ⟨ho.own hoc.1 (by omega), hoc.2⟩, hor.keep (ho.kept fun b _ e => by omega) (fun b hb hb' => hsep b hb' hb), hsep⟩
    have := (((HB0.out.keep (hx1.kept _)).set 0 (.string t.name)).set 1 (.slice Ac t.cols.length cc)).set 2 (.slice Ar t.rows.length cr)
    simpa using this)
  have q5 := HB0.out.keep (hx1.kept _)
  have k50 := q5.cell (i := 0) rfl
  have k51 := q5.cell (i := 1) rfl
  have k52 := q5.cell (i := 2) rfl
  have kf := q5.frozen
  have kz := q5.lt
  clear hoc hor hsep hx1 q5 HX0 HB0 HB1 HB2 HS0 HW0
  go_upto_region 2 with fail
  obtain ⟨w2, hw2⟩ : ∃ w2, w2 = (((w1.setCell ⟨w.heap.size, 0, none⟩ (.string t.name)).setCell ⟨w.heap.size, 1, none⟩ (.slice Ac t.cols.length cc)).setCell ⟨w.heap.size, 2, none⟩ (.slice Ar t.rows.length cr)) := ⟨_, rfl⟩
  rw [← hw2] at HM1
  rw [← hw2]
  clear hw2 k50 k51 k52 kf kz
  obtain ⟨cols, hcols⟩ : ∃ cols, cols = t.cols := ⟨_, rfl⟩
  obtain ⟨rows, hrows⟩ : ∃ rows, rows = t.rows := ⟨_, rfl⟩
  obtain ⟨nm, hnmE⟩ : ∃ nm, nm = t.name := ⟨_, rfl⟩
  rw [← hcols, ← hrows, ← hnmE] at HM1
  rw [← hcols] at ht1 ht2 HT4
  rw [← hrows] at ht3 HT4
  rw [← hnmE] at hnm
  clear hcols hrows hnmE
  have HM := HM1
  have d0 := HM1.out.box.cell (i := 0) rfl
  have d1 := HM1.out.box.cell (i := 1) rfl
  have d2 := HM1.out.box.cell (i := 2) rfl
  have df := HM1.out.box.frozen
  have dz := HM1.out.box.lt
  have g0 := HM1.out.qb.cell (i := 0) rfl
  have g1 := HM1.out.qb.cell (i := 1) rfl
  have g2 := HM1.out.qb.cell (i := 2) rfl
  have gz := HM1.out.qb.lt
  have HR4 := Lib.hid (show ∀ r ∈ rows, r.length ≤ 4294967296 from fun r hr => by rw [HT4.out r hr]; omega)
  obtain ⟨hc1, hc2⟩ := next_bd q1 4 (by omega)
  go_upto_region 27 with fail
  obtain ⟨wf, hwf⟩ : ∃ wf, wf = ((w2.setCell ⟨w.heap.size, 0, none⟩ (.string ⟨#[111, 116, 104, 101, 114]⟩)).alloc (.cells #[.string ⟨#[]⟩, .string ⟨#[111, 116, 104, 101, 114]⟩, .string ⟨#[49, 120]⟩, .string ⟨#[116, 119, 111, 32, 119, 111, 114, 100, 115]⟩] 9)) := ⟨_, rfl⟩
  have HF := Lib.hid (show ∃ (t : Look) (A : Option Addr) (c : Nat) (B : Option Addr) (e : Nat), OF w t A c B e wf by rw [hwf]; exact ⟨⟨⟨#[111, 116, 104, 101, 114]⟩, cols, rows⟩, Ac, cc, Ar, cr, OF.more (OF.of HM.out ((Only.refl w.heap.size w2).set 0 (.string ⟨#[111, 116, 104, 101, 114]⟩)) (by have := HM.out.box.set 0 (.string ⟨#[111, 116, 104, 101, 114]⟩); simpa using this) ⟨(show (⟨#[111, 116, 104, 101, 114]⟩ : ByteArray).size ≤ 4294967296 by decide), HM.out.cols.strs (by omega) fun b hb => (HM.out.cols.1.blk hb).1, HM.out.rows.rows (by omega) HR4.out⟩ ⟨HM.out.cols.1.cap, HM.out.rows.cap⟩) ((Ext.refl _).alloc _)⟩)
  rw [← hwf]
  clear hwf
  obtain ⟨t', A', c', B', e', hf⟩ := HF.out
  have HF := Lib.hid hf
  have f0 := hf.box.cell (i := 0) rfl
  have f1 := hf.box.cell (i := 1) rfl
  have f2 := hf.box.cell (i := 2) rfl
  have r0 := hf.res.cell (i := 0) rfl
  have r1 := hf.res.cell (i := 1) rfl
  have r2 := hf.res.cell (i := 2) rfl
  have rf := hf.res.frozen
  have rz := hf.res.lt
  clear hf d0 d1 d2 df dz g0 g1 g2 gz
  go_wp2
  all_goals refine bodyPost_ret (v := (.agg #[.string t'.name, .slice A' t'.cols.length c', .slice B' t'.rows.length e'])) (by simp [results, Tryz.results11, go_sem, r0, r1, r2]) rfl ⟨t', A', c', B', e', rfl, HF.out.cap, RL.mono (RL.keep HF.out.rl (K3 ?_)) fun b _ hb => by unfold Fresh; omega, E3 ?_⟩
  all_goals first | exact ⟨HF.out.ext, by omega⟩ | omega

set_option maxRecDepth 100000 in
set_option maxHeartbeats 4000000 in
theorem odd_0_2 (t : Look) (A B : Option Addr) (c e : Nat) (q0 q1 q2 : Int) (w : World) (S : Nat → Prop) (h : RL w S 2 t A B) (ht : OkT t) (hm : (q0.tmod 8 + 8) % 8 = 0) (hj : (q1.tmod 4 + 4) % 4 = 2) : Calls Tryz.prog 11 #[(.agg #[.string t.name, .slice A t.cols.length c, .slice B t.rows.length e]), .agg #[.int .i64 q0, .int .i64 q1, .int .i64 q2]] w (RetOd w) := by
  have H := Lib.hid h
  obtain ⟨ht1, ht2, ht3, ht4⟩ := ht
  have HT4 := Lib.hid ht4
  obtain ⟨hb1, hb2⟩ := next_bd q0 8 (by omega)
  have hnm := h.1
  clear h ht4
  obtain ⟨W0, hW0⟩ : ∃ W0, W0 = ((w.alloc (.cells #[.string t.name, .slice A t.cols.length c, .slice B t.rows.length e] 28)).alloc (.cells #[.int .i64 q0, .int .i64 q1, .int .i64 q2] 23)).alloc (.cells #[.string ⟨#[]⟩, .slice none 0 0, .slice none 0 0] 28) := ⟨_, rfl⟩
  have HW0 := Lib.hid hW0
  have hx0 : Ext w W0 := by rw [hW0]; exact (((Ext.refl w).alloc _).alloc _).alloc _
  have b0 : Blk W0 w.heap.size 28 #[.string t.name, .slice A t.cols.length c, .slice B t.rows.length e] := by rw [hW0]; exact ((Blk.new _ _ _).keep (Kept.alloc _ _ _)).keep (Kept.alloc _ _ _)
  have b1 : Blk W0 (w.heap.size + 1) 23 #[.int .i64 q0, .int .i64 q1, .int .i64 q2] := by
    rw [hW0]
    have := (Blk.new (w.alloc (.cells #[.string t.name, .slice A t.cols.length c, .slice B t.rows.length e] 28)) 23 #[.int .i64 q0, .int .i64 q1, .int .i64 q2]).keep (Kept.alloc _ _ (.cells #[.string ⟨#[]⟩, .slice none 0 0, .slice none 0 0] 28))
    simpa using this
  have b2 : Blk W0 (w.heap.size + 1 + 1) 28 #[.string ⟨#[]⟩, .slice none 0 0, .slice none 0 0] := by
    rw [hW0]
    have := Blk.new ((w.alloc (.cells #[.string t.name, .slice A t.cols.length c, .slice B t.rows.length e] 28)).alloc (.cells #[.int .i64 q0, .int .i64 q1, .int .i64 q2] 23)) 28 #[.string ⟨#[]⟩, .slice none 0 0, .slice none 0 0]
    simpa using this
  have hs0 : W0.heap.size = w.heap.size + 3 := by rw [hW0]; simp
  have HX0 := Lib.hid hx0
  have HB0 := Lib.hid b0
  have HB1 := Lib.hid b1
  have HB2 := Lib.hid b2
  have HS0 := Lib.hid hs0
  clear hW0 hx0 b0 b1 b2 hs0
  go_enter Tryz.func11, Tryz.ntmps11
  go_wp2_with fail
  rw [← HW0.out]
  refine (r09_Copy 2 t A B c e W0 S (H.out.keep (HX0.out.kept S))).mono ?_
  rintro e1 w1 ⟨Ac, cc, Ar, cr, rfl, hoc, hor, hsep, hx1⟩
  rw [HS0.out] at hoc hor
  have HM1 := Lib.hid (show OD w q0 q1 q2 t.name Ac cc t.cols Ar cr t.rows (((w1.setCell ⟨w.heap.size, 0, none⟩ (.string t.name)).setCell ⟨w.heap.size, 1, none⟩ (.slice Ac t.cols.length cc)).setCell ⟨w.heap.size, 2, none⟩ (.slice Ar t.rows.length cr)) by
    have ho := (((Only.refl w.heap.size w1).set 0 (.string t.name)).set 1 (.slice Ac t.cols.length cc)).set 2 (.slice Ar t.rows.length cr)
    refine ⟨(HX0.out.trans hx1).only ho (by omega), ?_, (HB1.out.keep (hx1.kept _)).keep (ho.kept fun b _ e => by omega), (HB2.out.keep (hx1.kept _)).keep (ho.kept fun b _ e => by omega), ⟨ho.own hoc.1 (by omega), hoc.2⟩, hor.keep (ho.kept fun b _ e => by omega) (fun b hb hb' => hsep b hb' hb), hsep⟩
    have := (((HB0.out.keep (hx1.kept _)).set 0 (.string t.name)).set 1 (.slice Ac t.cols.length cc)).set 2 (.slice Ar t.rows.length cr)
    simpa using this)
  have q5 := HB0.out.keep (hx1.kept _)
  have k50 := q5.cell (i := 0) rfl
  have k51 := q5.cell (i := 1) rfl
  have k52 := q5.cell (i := 2) rfl
  have kf := q5.frozen
  have kz := q5.lt
  clear hoc hor hsep hx1 q5 HX0 HB0 HB1 HB2 HS0 HW0
  go_upto_region 2 with fail
  obtain ⟨w2, hw2⟩ : ∃ w2, w2 = (((w1.setCell ⟨w.heap.size, 0, none⟩ (.string t.name)).setCell ⟨w.heap.size, 1, none⟩ (.slice Ac t.cols.length cc)).setCell ⟨w.heap.size, 2, none⟩ (.slice Ar t.rows.length cr)) := ⟨_, rfl⟩
  rw [← hw2] at HM1
  rw [← hw2]
  clear hw2 k50 k51 k52 kf kz
  obtain ⟨cols, hcols⟩ : ∃ cols, cols = t.cols := ⟨_, rfl⟩
  obtain ⟨rows, hrows⟩ : ∃ rows, rows = t.rows := ⟨_, rfl⟩
  obtain ⟨nm, hnmE⟩ : ∃ nm, nm = t.name := ⟨_, rfl⟩
  rw [← hcols, ← hrows, ← hnmE] at HM1
  rw [← hcols] at ht1 ht2 HT4
  rw [← hrows] at ht3 HT4
  rw [← hnmE] at hnm
  clear hcols hrows hnmE
  have HM := HM1
  have d0 := HM1.out.box.cell (i := 0) rfl
  have d1 := HM1.out.box.cell (i := 1) rfl
  have d2 := HM1.out.box.cell (i := 2) rfl
  have df := HM1.out.box.frozen
  have dz := HM1.out.box.lt
  have g0 := HM1.out.qb.cell (i := 0) rfl
  have g1 := HM1.out.qb.cell (i := 1) rfl
  have g2 := HM1.out.qb.cell (i := 2) rfl
  have gz := HM1.out.qb.lt
  have HR4 := Lib.hid (show ∀ r ∈ rows, r.length ≤ 4294967296 from fun r hr => by rw [HT4.out r hr]; omega)
  obtain ⟨hc1, hc2⟩ := next_bd q1 4 (by omega)
  go_upto_region 27 with fail
  obtain ⟨wf, hwf⟩ : ∃ wf, wf = ((w2.setCell ⟨w.heap.size, 0, none⟩ (.string ⟨#[49, 120]⟩)).alloc (.cells #[.string ⟨#[]⟩, .string ⟨#[111, 116, 104, 101, 114]⟩, .string ⟨#[49, 120]⟩, .string ⟨#[116, 119, 111, 32, 119, 111, 114, 100, 115]⟩] 9)) := ⟨_, rfl⟩
  have HF := Lib.hid (show ∃ (t : Look) (A : Option Addr) (c : Nat) (B : Option Addr) (e : Nat), OF w t A c B e wf by rw [hwf]; exact ⟨⟨⟨#[49, 120]⟩, cols, rows⟩, Ac, cc, Ar, cr, OF.more (OF.of HM.out ((Only.refl w.heap.size w2).set 0 (.string ⟨#[49, 120]⟩)) (by have := HM.out.box.set 0 (.string ⟨#[49, 120]⟩); simpa using this) ⟨(show (⟨#[49, 120]⟩ : ByteArray).size ≤ 4294967296 by decide), HM.out.cols.strs (by omega) fun b hb => (HM.out.cols.1.blk hb).1, HM.out.rows.rows (by omega) HR4.out⟩ ⟨HM.out.cols.1.cap, HM.out.rows.cap⟩) ((Ext.refl _).alloc _)⟩)
  rw [← hwf]
  clear hwf
  obtain ⟨t', A', c', B', e', hf⟩ := HF.out
  have HF := Lib.hid hf
  have f0 := hf.box.cell (i := 0) rfl
  have f1 := hf.box.cell (i := 1) rfl
  have f2 := hf.box.cell (i := 2) rfl
  have r0 := hf.res.cell (i := 0) rfl
  have r1 := hf.res.cell (i := 1) rfl
  have r2 := hf.res.cell (i := 2) rfl
  have rf := hf.res.frozen
  have rz := hf.res.lt
  clear hf d0 d1 d2 df dz g0 g1 g2 gz
  go_wp2
  all_goals refine bodyPost_ret (v := (.agg #[.string t'.name, .slice A' t'.cols.length c', .slice B' t'.rows.length e'])) (by simp [results, Tryz.results11, go_sem, r0, r1, r2]) rfl ⟨t', A', c', B', e', rfl, HF.out.cap, RL.mono (RL.keep HF.out.rl (K3 ?_)) fun b _ hb => by unfold Fresh; omega, E3 ?_⟩
  all_goals first | exact ⟨HF.out.ext, by omega⟩ | omega

set_option maxRecDepth 100000 in
set_option maxHeartbeats 4000000 in
theorem odd_0_3 (t : Look) (A B : Option Addr) (c e : Nat) (q0 q1 q2 : Int) (w : World) (S : Nat → Prop) (h : RL w S 2 t A B) (ht : OkT t) (hm : (q0.tmod 8 + 8) % 8 = 0) (hj : (q1.tmod 4 + 4) % 4 = 3) : Calls Tryz.prog 11 #[(.agg #[.string t.name, .slice A t.cols.length c, .slice B t.rows.length e]), .agg #[.int .i64 q0, .int .i64 q1, .int .i64 q2]] w (RetOd w) := by
  have H := Lib.hid h
  obtain ⟨ht1, ht2, ht3, ht4⟩ := ht
  have HT4 := Lib.hid ht4
  obtain ⟨hb1, hb2⟩ := next_bd q0 8 (by omega)
  have hnm := h.1
  clear h ht4
  obtain ⟨W0, hW0⟩ : ∃ W0, W0 = ((w.alloc (.cells #[.string t.name, .slice A t.cols.length c, .slice B t.rows.length e] 28)).alloc (.cells #[.int .i64 q0, .int .i64 q1, .int .i64 q2] 23)).alloc (.cells #[.string ⟨#[]⟩, .slice none 0 0, .slice none 0 0] 28) := ⟨_, rfl⟩
  have HW0 := Lib.hid hW0
  have hx0 : Ext w W0 := by rw [hW0]; exact (((Ext.refl w).alloc _).alloc _).alloc _
  have b0 : Blk W0 w.heap.size 28 #[.string t.name, .slice A t.cols.length c, .slice B t.rows.length e] := by rw [hW0]; exact ((Blk.new _ _ _).keep (Kept.alloc _ _ _)).keep (Kept.alloc _ _ _)
  have b1 : Blk W0 (w.heap.size + 1) 23 #[.int .i64 q0, .int .i64 q1, .int .i64 q2] := by
    rw [hW0]
    have := (Blk.new (w.alloc (.cells #[.string t.name, .slice A t.cols.length c, .slice B t.rows.length e] 28)) 23 #[.int .i64 q0, .int .i64 q1, .int .i64 q2]).keep (Kept.alloc _ _ (.cells #[.string ⟨#[]⟩, .slice none 0 0, .slice none 0 0] 28))
    simpa using this
  have b2 : Blk W0 (w.heap.size + 1 + 1) 28 #[.string ⟨#[]⟩, .slice none 0 0, .slice none 0 0] := by
    rw [hW0]
    have := Blk.new ((w.alloc (.cells #[.string t.name, .slice A t.cols.length c, .slice B t.rows.length e] 28)).alloc (.cells #[.int .i64 q0, .int .i64 q1, .int .i64 q2] 23)) 28 #[.string ⟨#[]⟩, .slice none 0 0, .slice none 0 0]
    simpa using this
  have hs0 : W0.heap.size = w.heap.size + 3 := by rw [hW0]; simp
  have HX0 := Lib.hid hx0
  have HB0 := Lib.hid b0
  have HB1 := Lib.hid b1
  have HB2 := Lib.hid b2
  have HS0 := Lib.hid hs0
  clear hW0 hx0 b0 b1 b2 hs0
  go_enter Tryz.func11, Tryz.ntmps11
  go_wp2_with fail
  rw [← HW0.out]
  refine (r09_Copy 2 t A B c e W0 S (H.out.keep (HX0.out.kept S))).mono ?_
  rintro e1 w1 ⟨Ac, cc, Ar, cr, rfl, hoc, hor, hsep, hx1⟩
  rw [HS0.out] at hoc hor
  have HM1 := Lib.hid (show OD w q0 q1 q2 t.name Ac cc t.cols Ar cr t.rows (((w1.setCell ⟨w.heap.size, 0, none⟩ (.string t.name)).setCell ⟨w.heap.size, 1, none⟩ (.slice Ac t.cols.length cc)).setCell ⟨w.heap.size, 2, none⟩ (.slice Ar t.rows.length cr)) by
    have ho := (((Only.refl w.heap.size w1).set 0 (.string t.name)).set 1 (.slice Ac t.cols.length cc)).set 2 (.slice Ar t.rows.length cr)
    refine ⟨(HX0.out.trans hx1).only ho (by omega), ?_, (HB1.out.keep (hx1.kept _)).keep (ho.kept fun b _ e => by omega), (HB2.out.keep (hx1.kept _)).keep (ho.kept fun b _ e => by omega), ⟨ho.own hoc.1 (by omega), hoc.2⟩, hor.keep (ho.kept fun b _ e => by omega) (fun b hb hb' => hsep b hb' hb), hsep⟩
    have := (((HB0.out.keep (hx1.kept _)).set 0 (.string t.name)).set 1 (.slice Ac t.cols.length cc)).set 2 (.slice Ar t.rows.length cr)
    simpa using this)
  have q5 := HB0.out.keep (hx1.kept _)
  have k50 := q5.cell (i := 0) rfl
  have k51 := q5.cell (i := 1) rfl
  have k52 := q5.cell (i := 2) rfl
  have kf := q5.frozen
  have kz := q5.lt
  clear hoc hor hsep hx1 q5 HX0 HB0 HB1 HB2 HS0 HW0
  go_upto_region 2 with fail
  obtain ⟨w2, hw2⟩ : ∃ w2, w2 = (((w1.setCell ⟨w.heap.size, 0, none⟩ (.string t.name)).setCell ⟨w.heap.size, 1, none⟩ (.slice Ac t.cols.length cc)).setCell ⟨w.heap.size, 2, none⟩ (.slice Ar t.rows.length cr)) := ⟨_, rfl⟩
  rw [← hw2] at HM1
  rw [← hw2]
  clear hw2 k50 k51 k52 kf kz
  obtain ⟨cols, hcols⟩ : ∃ cols, cols = t.cols := ⟨_, rfl⟩
  obtain ⟨rows, hrows⟩ : ∃ rows, rows = t.rows := ⟨_, rfl⟩
  obtain ⟨nm, hnmE⟩ : ∃ nm, nm = t.name := ⟨_, rfl⟩
  rw [← hcols, ← hrows, ← hnmE] at HM1
  rw [← hcols] at ht1 ht2 HT4
  rw [← hrows] at ht3 HT4
  rw [← hnmE] at hnm
  clear hcols hrows hnmE
  have HM := HM1
  have d0 := HM1.out.box.cell (i := 0) rfl
  have d1 := HM1.out.box.cell (i := 1) rfl
  have d2 := HM1.out.box.cell (i := 2) rfl
  have df := HM1.out.box.frozen
  have dz := HM1.out.box.lt
  have g0 := HM1.out.qb.cell (i := 0) rfl
  have g1 := HM1.out.qb.cell (i := 1) rfl
  have g2 := HM1.out.qb.cell (i := 2) rfl
  have gz := HM1.out.qb.lt
  have HR4 := Lib.hid (show ∀ r ∈ rows, r.length ≤ 4294967296 from fun r hr => by rw [HT4.out r hr]; omega)
  obtain ⟨hc1, hc2⟩ := next_bd q1 4 (by omega)
  go_upto_region 27 with fail
  obtain ⟨wf, hwf⟩ : ∃ wf, wf = ((w2.setCell ⟨w.heap.size, 0, none⟩ (.string ⟨#[116, 119, 111, 32, 119, 111, 114, 100, 115]⟩)).alloc (.cells #[.string ⟨#[]⟩, .string ⟨#[111, 116, 104, 101, 114]⟩, .string ⟨#[49, 120]⟩, .string ⟨#[116, 119, 111, 32, 119, 111, 114, 100, 115]⟩] 9)) := ⟨_, rfl⟩
  have HF := Lib.hid (show ∃ (t : Look) (A : Option Addr) (c : Nat) (B : Option Addr) (e : Nat), OF w t A c B e wf by rw [hwf]; exact ⟨⟨⟨#[116, 119, 111, 32, 119, 111, 114, 100, 115]⟩, cols, rows⟩, Ac, cc, Ar, cr, OF.more (OF.of HM.out ((Only.refl w.heap.size w2).set 0 (.string ⟨#[116, 119, 111, 32, 119, 111, 114, 100, 115]⟩)) (by have := HM.out.box.set 0 (.string ⟨#[116, 119, 111, 32, 119, 111, 114, 100, 115]⟩); simpa using this) ⟨(show (⟨#[116, 119, 111, 32, 119, 111, 114, 100, 115]⟩ : ByteArray).size ≤ 4294967296 by decide), HM.out.cols.strs (by omega) fun b hb => (HM.out.cols.1.blk hb).1, HM.out.rows.rows (by omega) HR4.out⟩ ⟨HM.out.cols.1.cap, HM.out.rows.cap⟩) ((Ext.refl _).alloc _)⟩)
  rw [← hwf]
  clear hwf
  obtain ⟨t', A', c', B', e', hf⟩ := HF.out
  have HF := Lib.hid hf
  have f0 := hf.box.cell (i := 0) rfl
  have f1 := hf.box.cell (i := 1) rfl
  have f2 := hf.box.cell (i := 2) rfl
  have r0 := hf.res.cell (i := 0) rfl
  have r1 := hf.res.cell (i := 1) rfl
  have r2 := hf.res.cell (i := 2) rfl
  have rf := hf.res.frozen
  have rz := hf.res.lt
  clear hf d0 d1 d2 df dz g0 g1 g2 gz
  go_wp2
  all_goals refine bodyPost_ret (v := (.agg #[.string t'.name, .slice A' t'.cols.length c', .slice B' t'.rows.length e'])) (by simp [results, Tryz.results11, go_sem, r0, r1, r2]) rfl ⟨t', A', c', B', e', rfl, HF.out.cap, RL.mono (RL.keep HF.out.rl (K3 ?_)) fun b _ hb => by unfold Fresh; omega, E3 ?_⟩
  all_goals first | exact ⟨HF.out.ext, by omega⟩ | omega

set_option maxRecDepth 100000 in
set_option maxHeartbeats 4000000 in
theorem odd_1 (t : Look) (A B : Option Addr) (c e : Nat) (q0 q1 q2 : Int) (w : World) (S : Nat → Prop) (h : RL w S 2 t A B) (ht : OkT t) (hm : (q0.tmod 8 + 8) % 8 = 1) : Calls Tryz.prog 11 #[(.agg #[.string t.name, .slice A t.cols.length c, .slice B t.rows.length e]), .agg #[.int .i64 q0, .int .i64 q1, .int .i64 q2]] w (RetOd w) := by
  have H := Lib.hid h
  obtain ⟨ht1, ht2, ht3, ht4⟩ := ht
  have HT4 := Lib.hid ht4
  obtain ⟨hb1, hb2⟩ := next_bd q0 8 (by omega)
  have hnm := h.1
  clear h ht4
  obtain ⟨W0, hW0⟩ : ∃ W0, W0 = ((w.alloc (.cells #[.string t.name, .slice A t.cols.length c, .slice B t.rows.length e] 28)).alloc (.cells #[.int .i64 q0, .int .i64 q1, .int .i64 q2] 23)).alloc (.cells #[.string ⟨#[]⟩, .slice none 0 0, .slice none 0 0] 28) := ⟨_, rfl⟩
  have HW0 := Lib.hid hW0
  have hx0 : Ext w W0 := by rw [hW0]; exact (((Ext.refl w).alloc _).alloc _).alloc _
  have b0 : Blk W0 w.heap.size 28 #[.string t.name, .slice A t.cols.length c, .slice B t.rows.length e] := by rw [hW0]; exact ((Blk.new _ _ _).keep (Kept.alloc _ _ _)).keep (Kept.alloc _ _ _)
  have b1 : Blk W0 (w.heap.size + 1) 23 #[.int .i64 q0, .int .i64 q1, .int .i64 q2] := by
    rw [hW0]
    have := (Blk.new (w.alloc (.cells #[.string t.name, .slice A t.cols.length c, .slice B t.rows.length e] 28)) 23 #[.int .i64 q0, .int .i64 q1, .int .i64 q2]).keep (Kept.alloc _ _ (.cells #[.string ⟨#[]⟩, .slice none 0 0, .slice none 0 0] 28))
    simpa using this
  have b2 : Blk W0 (w.heap.size + 1 + 1) 28 #[.string ⟨#[]⟩, .slice none 0 0, .slice none 0 0] := by
    rw [hW0]
    have := Blk.new ((w.alloc (.cells #[.string t.name, .slice A t.cols.length c, .slice B t.rows.length e] 28)).alloc (.cells #[.int .i64 q0, .int .i64 q1, .int .i64 q2] 23)) 28 #[.string ⟨#[]⟩, .slice none 0 0, .slice none 0 0]
    simpa using this
  have hs0 : W0.heap.size = w.heap.size + 3 := by rw [hW0]; simp
  have HX0 := Lib.hid hx0
  have HB0 := Lib.hid b0
  have HB1 := Lib.hid b1
  have HB2 := Lib.hid b2
  have HS0 := Lib.hid hs0
  clear hW0 hx0 b0 b1 b2 hs0
  go_enter Tryz.func11, Tryz.ntmps11
  go_wp2_with fail
  rw [← HW0.out]
  refine (r09_Copy 2 t A B c e W0 S (H.out.keep (HX0.out.kept S))).mono ?_
  rintro e1 w1 ⟨Ac, cc, Ar, cr, rfl, hoc, hor, hsep, hx1⟩
  rw [HS0.out] at hoc hor
  have HM1 := Lib.hid (show OD w q0 q1 q2 t.name Ac cc t.cols Ar cr t.rows (((w1.setCell ⟨w.heap.size, 0, none⟩ (.string t.name)).setCell ⟨w.heap.size, 1, none⟩ (.slice Ac t.cols.length cc)).setCell ⟨w.heap.size, 2, none⟩ (.slice Ar t.rows.length cr)) by
    have ho := (((Only.refl w.heap.size w1).set 0 (.string t.name)).set 1 (.slice Ac t.cols.length cc)).set 2 (.slice Ar t.rows.length cr)
    refine ⟨(HX0.out.trans hx1).only ho (by omega), ?_, (HB1.out.keep (hx1.kept _)).keep (ho.kept fun b _ e => by omega), (HB2.out.keep (hx1.kept _)).keep (ho.kept fun b _ e => by omega), ⟨ho.own hoc.1 (by omega), hoc.2⟩, hor.keep (ho.kept fun b _ e => by omega) (fun b hb hb' => hsep b hb' hb), hsep⟩
    have := (((HB0.out.keep (hx1.kept _)).set 0 (.string t.name)).set 1 (.slice Ac t.cols.length cc)).set 2 (.slice Ar t.rows.length cr)
    simpa using this)
  have q5 := HB0.out.keep (hx1.kept _)
  have k50 := q5.cell (i := 0) rfl
  have k51 := q5.cell (i := 1) rfl
  have k52 := q5.cell (i := 2) rfl
  have kf := q5.frozen
  have kz := q5.lt
  clear hoc hor hsep hx1 q5 HX0 HB0 HB1 HB2 HS0 HW0
  go_upto_region 2 with fail
  obtain ⟨w2, hw2⟩ : ∃ w2, w2 = (((w1.setCell ⟨w.heap.size, 0, none⟩ (.string t.name)).setCell ⟨w.heap.size, 1, none⟩ (.slice Ac t.cols.length cc)).setCell ⟨w.heap.size, 2, none⟩ (.slice Ar t.rows.length cr)) := ⟨_, rfl⟩
  rw [← hw2] at HM1
  rw [← hw2]
  clear hw2 k50 k51 k52 kf kz
  obtain ⟨cols, hcols⟩ : ∃ cols, cols = t.cols := ⟨_, rfl⟩
  obtain ⟨rows, hrows⟩ : ∃ rows, rows = t.rows := ⟨_, rfl⟩
  obtain ⟨nm, hnmE⟩ : ∃ nm, nm = t.name := ⟨_, rfl⟩
  rw [← hcols, ← hrows, ← hnmE] at HM1
  rw [← hcols] at ht1 ht2 HT4
  rw [← hrows] at ht3 HT4
  rw [← hnmE] at hnm
  clear hcols hrows hnmE
  have HM := HM1
  have d0 := HM1.out.box.cell (i := 0) rfl
  have d1 := HM1.out.box.cell (i := 1) rfl
  have d2 := HM1.out.box.cell (i := 2) rfl
  have df := HM1.out.box.frozen
  have dz := HM1.out.box.lt
  have g0 := HM1.out.qb.cell (i := 0) rfl
  have g1 := HM1.out.qb.cell (i := 1) rfl
  have g2 := HM1.out.qb.cell (i := 2) rfl
  have gz := HM1.out.qb.lt
  have HR4 := Lib.hid (show ∀ r ∈ rows, r.length ≤ 4294967296 from fun r hr => by rw [HT4.out r hr]; omega)
  have HM3 := Lib.hid (HM.out.more ((Ext.refl w2).alloc (.cells #[.string ⟨#[99, 105, 116, 121]⟩] 9)))
  have HOC := Lib.hid HM3.out.cols.1
  go_upto_region 27 with (at_builtin; go_must (refine wpList_app rfl (.tmp 28) (.tmp 29) rfl tiS rfl HOC.out rfl (Blk.rd (Blk.new _ _ _)) rfl (by simp [Value.oneCell']) (by omega) (by decide) (by simp; omega) ?_); intro A4 c4 w4 hown4 hg4 hat4; obtain ⟨hb4, hf4⟩ := HM3.out.appC (s := ⟨#[99, 105, 116, 121]⟩) (by decide) hnm (by omega) (by omega) HR4.out hg4 hown4; have HF4 := Lib.hid hf4; have l1 := hb4.cell (i := 1) rfl; have lf := hb4.frozen; have lz := hb4.lt; clear hown4 hg4 hat4 hb4 hf4)
  obtain ⟨wf, hwf⟩ : ∃ wf, wf = (w4.setCell ⟨w.heap.size, 1, none⟩ (.slice A4 (cols.length + 1) c4)) := ⟨_, rfl⟩
  have HF := Lib.hid (show ∃ (t : Look) (A : Option Addr) (c : Nat) (B : Option Addr) (e : Nat), OF w t A c B e wf by rw [hwf]; exact ⟨_, _, _, _, _, HF4.out⟩)
  rw [← hwf]
  clear hwf
  obtain ⟨t', A', c', B', e', hf⟩ := HF.out
  have HF := Lib.hid hf
  have f0 := hf.box.cell (i := 0) rfl
  have f1 := hf.box.cell (i := 1) rfl
  have f2 := hf.box.cell (i := 2) rfl
  have r0 := hf.res.cell (i := 0) rfl
  have r1 := hf.res.cell (i := 1) rfl
  have r2 := hf.res.cell (i := 2) rfl
  have rf := hf.res.frozen
  have rz := hf.res.lt
  clear hf d0 d1 d2 df dz g0 g1 g2 gz
  go_wp2
  all_goals refine bodyPost_ret (v := (.agg #[.string t'.name, .slice A' t'.cols.length c', .slice B' t'.rows.length e'])) (by simp [results, Tryz.results11, go_sem, r0, r1, r2]) rfl ⟨t', A', c', B', e', rfl, HF.out.cap, RL.mono (RL.keep HF.out.rl (K3 ?_)) fun b _ hb => by unfold Fresh; omega, E3 ?_⟩
  all_goals first | exact ⟨HF.out.ext, by omega⟩ | omega

set_option maxRecDepth 100000 in
set_option maxHeartbeats 4000000 in
theorem odd_4 (t : Look) (A B : Option Addr) (c e : Nat) (q0 q1 q2 : Int) (w : World) (S : Nat → Prop) (h : RL w S 2 t A B) (ht : OkT t) (hm : (q0.tmod 8 + 8) % 8 = 4) : Calls Tryz.prog 11 #[(.agg #[.string t.name, .slice A t.cols.length c, .slice B t.rows.length e]), .agg #[.int .i64 q0, .int .i64 q1, .int .i64 q2]] w (RetOd w) := by
  have H := Lib.hid h
  obtain ⟨ht1, ht2, ht3, ht4⟩ := ht
  have HT4 := Lib.hid ht4
  obtain ⟨hb1, hb2⟩ := next_bd q0 8 (by omega)
  have hnm := h.1
  clear h ht4
  obtain ⟨W0, hW0⟩ : ∃ W0, W0 = ((w.alloc (.cells #[.string t.name, .slice A t.cols.length c, .slice B t.rows.length e] 28)).alloc (.cells #[.int .i64 q0, .int .i64 q1, .int .i64 q2] 23)).alloc (.cells #[.string ⟨#[]⟩, .slice none 0 0, .slice none 0 0] 28) := ⟨_, rfl⟩
  have HW0 := Lib.hid hW0
  have hx0 : Ext w W0 := by rw [hW0]; exact (((Ext.refl w).alloc _).alloc _).alloc _
  have b0 : Blk W0 w.heap.size 28 #[.string t.name, .slice A t.cols.length c, .slice B t.rows.length e] := by rw [hW0]; exact ((Blk.new _ _ _).keep (Kept.alloc _ _ _)).keep (Kept.alloc _ _ _)
  have b1 : Blk W0 (w.heap.size + 1) 23 #[.int .i64 q0, .int .i64 q1, .int .i64 q2] := by
    rw [hW0]
    have := (Blk.new (w.alloc (.cells #[.string t.name, .slice A t.cols.length c, .slice B t.rows.length e] 28)) 23 #[.int .i64 q0, .int .i64 q1, .int .i64 q2]).keep (Kept.alloc _ _ (.cells #[.string ⟨#[]⟩, .slice none 0 0, .slice none 0 0] 28))
    simpa using this
  have b2 : Blk W0 (w.heap.size + 1 + 1) 28 #[.string ⟨#[]⟩, .slice none 0 0, .slice none 0 0] := by
    rw [hW0]
    have := Blk.new ((w.alloc (.cells #[.string t.name, .slice A t.cols.length c, .slice B t.rows.length e] 28)).alloc (.cells #[.int .i64 q0, .int .i64 q1, .int .i64 q2] 23)) 28 #[.string ⟨#[]⟩, .slice none 0 0, .slice none 0 0]
    simpa using this
  have hs0 : W0.heap.size = w.heap.size + 3 := by rw [hW0]; simp
  have HX0 := Lib.hid hx0
  have HB0 := Lib.hid b0
  have HB1 := Lib.hid b1
  have HB2 := Lib.hid b2
  have HS0 := Lib.hid hs0
  clear hW0 hx0 b0 b1 b2 hs0
  go_enter Tryz.func11, Tryz.ntmps11
  go_wp2_with fail
  rw [← HW0.out]
  refine (r09_Copy 2 t A B c e W0 S (H.out.keep (HX0.out.kept S))).mono ?_
  rintro e1 w1 ⟨Ac, cc, Ar, cr, rfl, hoc, hor, hsep, hx1⟩
  rw [HS0.out] at hoc hor
  have HM1 := Lib.hid (show OD w q0 q1 q2 t.name Ac cc t.cols Ar cr t.rows (((w1.setCell ⟨w.heap.size, 0, none⟩ (.string t.name)).setCell ⟨w.heap.size, 1, none⟩ (.slice Ac t.cols.length cc)).setCell ⟨w.heap.size, 2, none⟩ (.slice Ar t.rows.length cr)) by
    have ho := (((Only.refl w.heap.size w1).set 0 (.string t.name)).set 1 (.slice Ac t.cols.length cc)).set 2 (.slice Ar t.rows.length cr)
    refine ⟨(HX0.out.trans hx1).only ho (by omega), ?_, (HB1.out.keep (hx1.kept _)).keep (ho.kept fun b _ e => by omega), (HB2.out.keep (hx1.kept _)).keep (ho.kept fun b _ e => by omega), ⟨ho.own hoc.1 (by omega), hoc.2⟩, hor.keep (ho.kept fun b _ e => by omega) (fun b hb hb' => hsep b hb' hb), hsep⟩
    have := (((HB0.out.keep (hx1.kept _)).set 0 (.string t.name)).set 1 (.slice Ac t.cols.length cc)).set 2 (.slice Ar t.rows.length cr)
    simpa using this)
  have q5 := HB0.out.keep (hx1.kept _)
  have k50 := q5.cell (i := 0) rfl
  have k51 := q5.cell (i := 1) rfl
  have k52 := q5.cell (i := 2) rfl
  have kf := q5.frozen
  have kz := q5.lt
  clear hoc hor hsep hx1 q5 HX0 HB0 HB1 HB2 HS0 HW0
  go_upto_region 2 with fail
  obtain ⟨w2, hw2⟩ : ∃ w2, w2 = (((w1.setCell ⟨w.heap.size, 0, none⟩ (.string t.name)).setCell ⟨w.heap.size, 1, none⟩ (.slice Ac t.cols.length cc)).setCell ⟨w.heap.size, 2, none⟩ (.slice Ar t.rows.length cr)) := ⟨_, rfl⟩
  rw [← hw2] at HM1
  rw [← hw2]
  clear hw2 k50 k51 k52 kf kz
  obtain ⟨cols, hcols⟩ : ∃ cols, cols = t.cols := ⟨_, rfl⟩
  obtain ⟨rows, hrows⟩ : ∃ rows, rows = t.rows := ⟨_, rfl⟩
  obtain ⟨nm, hnmE⟩ : ∃ nm, nm = t.name := ⟨_, rfl⟩
  rw [← hcols, ← hrows, ← hnmE] at HM1
  rw [← hcols] at ht1 ht2 HT4
  rw [← hrows] at ht3 HT4
  rw [← hnmE] at hnm
  clear hcols hrows hnmE
  have HM := HM1
  have d0 := HM1.out.box.cell (i := 0) rfl
  have d1 := HM1.out.box.cell (i := 1) rfl
  have d2 := HM1.out.box.cell (i := 2) rfl
  have df := HM1.out.box.frozen
  have dz := HM1.out.box.lt
  have g0 := HM1.out.qb.cell (i := 0) rfl
  have g1 := HM1.out.qb.cell (i := 1) rfl
  have g2 := HM1.out.qb.cell (i := 2) rfl
  have gz := HM1.out.qb.lt
  have HR4 := Lib.hid (show ∀ r ∈ rows, r.length ≤ 4294967296 from fun r hr => by rw [HT4.out r hr]; omega)
  go_upto_region 27 with fail
  obtain ⟨wf, hwf⟩ : ∃ wf, wf = ((w2.setCell ⟨w.heap.size, 1, none⟩ (.slice none 0 0)).setCell ⟨w.heap.size, 2, none⟩ (.slice none 0 0)) := ⟨_, rfl⟩
  have HF := Lib.hid (show ∃ (t : Look) (A : Option Addr) (c : Nat) (B : Option Addr) (e : Nat), OF w t A c B e wf by rw [hwf]; exact ⟨⟨nm, [], []⟩, none, 0, none, 0, OF.of HM.out (((Only.refl w.heap.size w2).set 1 (.slice none 0 0)).set 2 (.slice none 0 0)) (by have := (HM.out.box.set 1 (.slice none 0 0)).set 2 (.slice none 0 0); simpa using this) ⟨hnm, Strs.nil, Rows.nil⟩ ⟨Nat.le_refl _, Nat.le_refl _⟩⟩)
  rw [← hwf]
  clear hwf
  obtain ⟨t', A', c', B', e', hf⟩ := HF.out
  have HF := Lib.hid hf
  have f0 := hf.box.cell (i := 0) rfl
  have f1 := hf.box.cell (i := 1) rfl
  have f2 := hf.box.cell (i := 2) rfl
  have r0 := hf.res.cell (i := 0) rfl
  have r1 := hf.res.cell (i := 1) rfl
  have r2 := hf.res.cell (i := 2) rfl
  have rf := hf.res.frozen
  have rz := hf.res.lt
  clear hf d0 d1 d2 df dz g0 g1 g2 gz
  go_wp2
  all_goals refine bodyPost_ret (v := (.agg #[.string t'.name, .slice A' t'.cols.length c', .slice B' t'.rows.length e'])) (by simp [results, Tryz.results11, go_sem, r0, r1, r2]) rfl ⟨t', A', c', B', e', rfl, HF.out.cap, RL.mono (RL.keep HF.out.rl (K3 ?_)) fun b _ hb => by unfold Fresh; omega, E3 ?_⟩
  all_goals first | exact ⟨HF.out.ext, by omega⟩ | omega
end Go.Proofs.YtcmmkeiiapbgcaaGreatDoor
/- The reference's Odd: a row more, many rows more. Conditions: the table reads as data, and is regular. -/
namespace Go.Proofs.YtcmmkeiiapbgcaaGreatDoor
open Go Go.RowKit
theorem lens_app {rows : List (List Val)} {n : Nat} (h : ∀ r ∈ rows, r.length ≤ 4294967296) (hn : n ≤ 4) : ∀ r ∈ rows ++ [List.replicate n Val.zero], r.length ≤ 4294967296 := by
  intro r hr
  rcases List.mem_append.1 hr with hr | hr
  · exact h r hr
  · simp at hr
    rw [hr, List.length_replicate]
    omega
def OdAInv (w : World) (q0 q1 q2 : Int) (nm : ByteArray) (Ac : Option Addr) (cc : Nat) (cols : List ByteArray) (Ar : Option Addr) (cr : Nat) (rows : List (List Val)) (γ : Nat) (w' : World) : Prop := γ ≤ 4 ∧ (γ ≤ 3 → ∃ y, Blk w' w.heap.size 28 #[.string nm, .slice Ac cols.length cc, y]) ∧ (γ ≤ 2 → OD w q0 q1 q2 nm Ac cc cols Ar cr rows w')
def gOdA (w : World) (q0 q1 q2 : Int) (nm : ByteArray) (Ac : Option Addr) (cc : Nat) (cols : List ByteArray) (Ar : Option Addr) (cr : Nat) (rows : List (List Val)) : Nat → List Value → Nat → World → Prop
  | 0, [v], _, _ => v = .pointer (some ⟨w.heap.size, 2, none⟩)
  | 1, [v], _, _ => v = .slice Ar rows.length cr
  | 2, [v], _, _ => v = .pointer (some ⟨w.heap.size, 1, none⟩)
  | 3, [v], _, _ => v = .slice Ac cols.length cc
  | 4, [v], _, _ => v = .int .i64 (cols.length : Int)
  | 5, [v], γ, w' => ∃ g : Nat, v = .slice (some ⟨g, 0, none⟩) cols.length cols.length ∧ 1 ≤ γ ∧ (γ = 1 → RRpush w' (w.heap.size + 3) (fun b => ob Ac = some b) 2 Ar cr rows (some ⟨g, 0, none⟩) cols.length (List.replicate cols.length Val.zero))
  | 6, [v], γ, w' => ∃ g g' : Nat, v = .slice (some ⟨g, 0, none⟩) 1 1 ∧ 2 ≤ γ ∧ (γ = 2 → Blk w' g 45 #[.slice (some ⟨g', 0, none⟩) cols.length cols.length] ∧ RRpush w' (w.heap.size + 3) (fun b => ob Ac = some b) 2 Ar cr rows (some ⟨g', 0, none⟩) cols.length (List.replicate cols.length Val.zero))
  | 7, [v], γ, w' => ∃ (A4 : Option Addr) (c4 : Nat), v = .slice A4 (rows.length + 1) c4 ∧ 3 ≤ γ ∧ (γ = 3 → ODA w q0 q1 q2 nm Ac cc cols A4 c4 (rows ++ [(List.replicate cols.length Val.zero)]) w')
  | 8, [v], _, _ => v = .pointer (some ⟨w.heap.size, 2, none⟩)
  | 9, [_], γ, w' => 4 ≤ γ ∧ (γ = 4 → ∃ (A4 : Option Addr) (c4 : Nat), OD w q0 q1 q2 nm Ac cc cols A4 c4 (rows ++ [(List.replicate cols.length Val.zero)]) w')
  | _, _, _, _ => True
theorem gOdA_st (w : World) (q0 q1 q2 : Int) (nm : ByteArray) (Ac : Option Addr) (cc : Nat) (cols : List ByteArray) (Ar : Option Addr) (cr : Nat) (rows : List (List Val)) : ∀ i l' γ v γ' v', SR (OdAInv w q0 q1 q2 nm Ac cc cols Ar cr rows) γ v γ' v' → gOdA w q0 q1 q2 nm Ac cc cols Ar cr rows i l' γ v → gOdA w q0 q1 q2 nm Ac cc cols Ar cr rows i l' γ' v' := by
  intro i l' γ v γ' v' r h
  have hle := r.le
  unfold gOdA at h ⊢
  split at h
  all_goals first
    | exact h
    | (obtain ⟨h1, h2⟩ := h; exact ⟨h1, by omega⟩)
    | (obtain ⟨h1, h3, h4⟩ := h; exact ⟨h1, by omega, fun e => by rw [r.eq (by omega)]; exact h4 (by omega)⟩)
    | (obtain ⟨x0, h1, h3, h4⟩ := h; exact ⟨x0, h1, by omega, fun e => by rw [r.eq (by omega)]; exact h4 (by omega)⟩)
    | (obtain ⟨x0, x1, h1, h3, h4⟩ := h; exact ⟨x0, x1, h1, by omega, fun e => by rw [r.eq (by omega)]; exact h4 (by omega)⟩)
    | (obtain ⟨x0, x1, x2, h1, h3, h4⟩ := h; exact ⟨x0, x1, x2, h1, by omega, fun e => by rw [r.eq (by omega)]; exact h4 (by omega)⟩)
    | (obtain ⟨x0, x1, x2, x3, h1, h3, h4⟩ := h; exact ⟨x0, x1, x2, x3, h1, by omega, fun e => by rw [r.eq (by omega)]; exact h4 (by omega)⟩)
    | (obtain ⟨x0, x1, x2, x3, x4, h1, h3, h4⟩ := h; exact ⟨x0, x1, x2, x3, x4, h1, by omega, fun e => by rw [r.eq (by omega)]; exact h4 (by omega)⟩)
    | (obtain ⟨h3, h4⟩ := h; exact ⟨by omega, fun e => by rw [r.eq (by omega)]; exact h4 (by omega)⟩)
def dOdA : Nat → List Nat := fun i => [i]
def stOdA : List Nat := [100, 3, 100, 4, 100, 1, 2, 3, 100, 4]

set_option maxRecDepth 100000 in
set_option maxHeartbeats 4000000 in
theorem odd_2 (t : Look) (A B : Option Addr) (c e : Nat) (q0 q1 q2 : Int) (w : World) (S : Nat → Prop) (h : RL w S 2 t A B) (ht : OkT t) (hm : (q0.tmod 8 + 8) % 8 = 2) : Calls Tryz.prog 11 #[(.agg #[.string t.name, .slice A t.cols.length c, .slice B t.rows.length e]), .agg #[.int .i64 q0, .int .i64 q1, .int .i64 q2]] w (RetOd w) := by
  have H := Lib.hid h
  obtain ⟨ht1, ht2, ht3, ht4⟩ := ht
  have HT4 := Lib.hid ht4
  obtain ⟨hb1, hb2⟩ := next_bd q0 8 (by omega)
  have hnm := h.1
  clear h ht4
  obtain ⟨W0, hW0⟩ : ∃ W0, W0 = ((w.alloc (.cells #[.string t.name, .slice A t.cols.length c, .slice B t.rows.length e] 28)).alloc (.cells #[.int .i64 q0, .int .i64 q1, .int .i64 q2] 23)).alloc (.cells #[.string ⟨#[]⟩, .slice none 0 0, .slice none 0 0] 28) := ⟨_, rfl⟩
  have HW0 := Lib.hid hW0
  have hx0 : Ext w W0 := by rw [hW0]; exact (((Ext.refl w).alloc _).alloc _).alloc _
  have b0 : Blk W0 w.heap.size 28 #[.string t.name, .slice A t.cols.length c, .slice B t.rows.length e] := by rw [hW0]; exact ((Blk.new _ _ _).keep (Kept.alloc _ _ _)).keep (Kept.alloc _ _ _)
  have b1 : Blk W0 (w.heap.size + 1) 23 #[.int .i64 q0, .int .i64 q1, .int .i64 q2] := by
    rw [hW0]
    have := (Blk.new (w.alloc (.cells #[.string t.name, .slice A t.cols.length c, .slice B t.rows.length e] 28)) 23 #[.int .i64 q0, .int .i64 q1, .int .i64 q2]).keep (Kept.alloc _ _ (.cells #[.string ⟨#[]⟩, .slice none 0 0, .slice none 0 0] 28))
    simpa using this
  have b2 : Blk W0 (w.heap.size + 1 + 1) 28 #[.string ⟨#[]⟩, .slice none 0 0, .slice none 0 0] := by
    rw [hW0]
    have := Blk.new ((w.alloc (.cells #[.string t.name, .slice A t.cols.length c, .slice B t.rows.length e] 28)).alloc (.cells #[.int .i64 q0, .int .i64 q1, .int .i64 q2] 23)) 28 #[.string ⟨#[]⟩, .slice none 0 0, .slice none 0 0]
    simpa using this
  have hs0 : W0.heap.size = w.heap.size + 3 := by rw [hW0]; simp
  have HX0 := Lib.hid hx0
  have HB0 := Lib.hid b0
  have HB1 := Lib.hid b1
  have HB2 := Lib.hid b2
  have HS0 := Lib.hid hs0
  clear hW0 hx0 b0 b1 b2 hs0
  go_enter Tryz.func11, Tryz.ntmps11
  go_wp2_with fail
  rw [← HW0.out]
  refine (r09_Copy 2 t A B c e W0 S (H.out.keep (HX0.out.kept S))).mono ?_
  rintro e1 w1 ⟨Ac, cc, Ar, cr, rfl, hoc, hor, hsep, hx1⟩
  rw [HS0.out] at hoc hor
  have HM1 := Lib.hid (show OD w q0 q1 q2 t.name Ac cc t.cols Ar cr t.rows (((w1.setCell ⟨w.heap.size, 0, none⟩ (.string t.name)).setCell ⟨w.heap.size, 1, none⟩ (.slice Ac t.cols.length cc)).setCell ⟨w.heap.size, 2, none⟩ (.slice Ar t.rows.length cr)) by
    have ho := (((Only.refl w.heap.size w1).set 0 (.string t.name)).set 1 (.slice Ac t.cols.length cc)).set 2 (.slice Ar t.rows.length cr)
    refine ⟨(HX0.out.trans hx1).only ho (by omega), ?_, (HB1.out.keep (hx1.kept _)).keep (ho.kept fun b _ e => by omega), (HB2.out.keep (hx1.kept _)).keep (ho.kept fun b _ e => by omega), ⟨ho.own hoc.1 (by omega), hoc.2⟩, hor.keep (ho.kept fun b _ e => by omega) (fun b hb hb' => hsep b hb' hb), hsep⟩
    have := (((HB0.out.keep (hx1.kept _)).set 0 (.string t.name)).set 1 (.slice Ac t.cols.length cc)).set 2 (.slice Ar t.rows.length cr)
    simpa using this)
  have q5 := HB0.out.keep (hx1.kept _)
  have k50 := q5.cell (i := 0) rfl
  have k51 := q5.cell (i := 1) rfl
  have k52 := q5.cell (i := 2) rfl
  have kf := q5.frozen
  have kz := q5.lt
  clear hoc hor hsep hx1 q5 HX0 HB0 HB1 HB2 HS0 HW0
  go_upto_region 2 with fail
  obtain ⟨w2, hw2⟩ : ∃ w2, w2 = (((w1.setCell ⟨w.heap.size, 0, none⟩ (.string t.name)).setCell ⟨w.heap.size, 1, none⟩ (.slice Ac t.cols.length cc)).setCell ⟨w.heap.size, 2, none⟩ (.slice Ar t.rows.length cr)) := ⟨_, rfl⟩
  rw [← hw2] at HM1
  rw [← hw2]
  clear hw2 k50 k51 k52 kf kz
  obtain ⟨cols, hcols⟩ : ∃ cols, cols = t.cols := ⟨_, rfl⟩
  obtain ⟨rows, hrows⟩ : ∃ rows, rows = t.rows := ⟨_, rfl⟩
  obtain ⟨nm, hnmE⟩ : ∃ nm, nm = t.name := ⟨_, rfl⟩
  rw [← hcols, ← hrows, ← hnmE] at HM1
  rw [← hcols] at ht1 ht2 HT4
  rw [← hrows] at ht3 HT4
  rw [← hnmE] at hnm
  clear hcols hrows hnmE
  have HM := HM1
  have d0 := HM1.out.box.cell (i := 0) rfl
  have d1 := HM1.out.box.cell (i := 1) rfl
  have d2 := HM1.out.box.cell (i := 2) rfl
  have df := HM1.out.box.frozen
  have dz := HM1.out.box.lt
  have g0 := HM1.out.qb.cell (i := 0) rfl
  have g1 := HM1.out.qb.cell (i := 1) rfl
  have g2 := HM1.out.qb.cell (i := 2) rfl
  have gz := HM1.out.qb.lt
  have HR4 := Lib.hid (show ∀ r ∈ rows, r.length ≤ 4294967296 from fun r hr => by rw [HT4.out r hr]; omega)
  go_upto_region 8 with fail
  refine wp_region_lin_lit (by kernel_rfl) dOdA (by kernel_rfl) (SR (OdAInv w q0 q1 q2 nm Ac cc cols Ar cr rows)) (SR.refl _) (SR.trans _) (SN stOdA) (gOdA w q0 q1 q2 nm Ac cc cols Ar cr rows) (gOdA_st _ _ _ _ _ _ _ _ _ _ _) 0 (SN.zero (by decide)) ⟨?_, ?_, ?_, ?_, ?_, ?_, ?_, ?_, ?_, ?_, trivial⟩ ?_
  · refine LinStep.yes fun vals γ w' ρ hR hN hp hρ hc hf hg => ⟨rfl, ?_⟩
    have hi := hR.inv ⟨by omega, fun _ => ⟨_, HM.out.box.keep (Kept.drew _ _)⟩, fun _ => HM.out.more (Ext.refl _).drew⟩
    have e2 : ρ (.tmp 2) = .pointer (some ⟨w.heap.size, 0, none⟩) := hρ 2
    clear hR hN hp hρ hi
    go_light
    go_simp
    exact ⟨γ, SR.refl _ _ _, fun _ _ _ h => h, rfl⟩
  · refine LinStep.yes fun vals γ w' ρ hR hN hp hρ hc hf hg => ⟨rfl, ?_⟩
    have hi := hR.inv ⟨by omega, fun _ => ⟨_, HM.out.box.keep (Kept.drew _ _)⟩, fun _ => HM.out.more (Ext.refl _).drew⟩
    have e34 : ρ (.tmp 34) = _ := (hρ 34).trans (hp 0 (by decide))
    have hb := (hi.2.2 (by have h : γ < 3 := hN; omega)).box
    have k1 := hb.cell (i := 2) rfl
    clear hR hN hp hρ hi hb
    go_light
    go_simp
    exact ⟨γ, SR.refl _ _ _, fun _ _ _ h => h, rfl⟩
  · refine LinStep.yes fun vals γ w' ρ hR hN hp hρ hc hf hg => ⟨rfl, ?_⟩
    have hi := hR.inv ⟨by omega, fun _ => ⟨_, HM.out.box.keep (Kept.drew _ _)⟩, fun _ => HM.out.more (Ext.refl _).drew⟩
    have e2 : ρ (.tmp 2) = .pointer (some ⟨w.heap.size, 0, none⟩) := hρ 2
    clear hR hN hp hρ hi
    go_light
    go_simp
    exact ⟨γ, SR.refl _ _ _, fun _ _ _ h => h, rfl⟩
  · refine LinStep.yes fun vals γ w' ρ hR hN hp hρ hc hf hg => ⟨rfl, ?_⟩
    have hi := hR.inv ⟨by omega, fun _ => ⟨_, HM.out.box.keep (Kept.drew _ _)⟩, fun _ => HM.out.more (Ext.refl _).drew⟩
    have e36 : ρ (.tmp 36) = _ := (hρ 36).trans (hp 2 (by decide))
    obtain ⟨y, hb⟩ := hi.2.1 (by have h : γ < 4 := hN; omega)
    have k1 := hb.cell (i := 1) rfl
    clear hR hN hp hρ hi hb
    go_light
    go_simp
    exact ⟨γ, SR.refl _ _ _, fun _ _ _ h => h, rfl⟩
  · refine LinStep.yes fun vals γ w' ρ hR hN hp hρ hc hf hg => ⟨rfl, ?_⟩
    have hi := hR.inv ⟨by omega, fun _ => ⟨_, HM.out.box.keep (Kept.drew _ _)⟩, fun _ => HM.out.more (Ext.refl _).drew⟩
    have e37 : ρ (.tmp 37) = _ := (hρ 37).trans (hp 3 (by decide))
    clear hR hN hp hρ hi
    go_light
    go_simp
    exact ⟨γ, SR.refl _ _ _, fun _ _ _ h => h, rfl⟩
  · refine LinStep.yes fun vals γ w' ρ hR hN hp hρ hc hf hg => ⟨rfl, ?_⟩
    have hi := hR.inv ⟨by omega, fun _ => ⟨_, HM.out.box.keep (Kept.drew _ _)⟩, fun _ => HM.out.more (Ext.refl _).drew⟩
    have e38 : ρ (.tmp 38) = _ := (hρ 38).trans (hp 4 (by decide))
    have h0 : γ = 0 := by have h : γ < 1 := hN; omega
    subst h0
    have HI := Lib.hid (hi.2.2 (by omega))
    have hmk := run_mkV cols.length (by omega)
    clear hR hN hp hρ hi
    go_light
    go_simp
    have hx1 : Ext w' (w'.alloc (.cells (zeroRow cols.length) 33)) := (Ext.refl _).alloc _
    have hod := HI.out.more hx1
    exact ⟨1, SR.up (by omega) ⟨by omega, fun _ => ⟨_, hod.box⟩, fun _ => hod⟩, SN.up (by omega) (by decide) rfl, _, rfl, by omega, fun _ => RRpush.of HI.out.rows (fun b hb => (HI.out.cols.1.blk hb).2) (OwnVs.zeros w' cols.length 2 (by decide) (by omega)) hx1⟩
  · refine LinStep.yes fun vals γ w' ρ hR hN hp hρ hc hf hg => ⟨rfl, ?_⟩
    have hi := hR.inv ⟨by omega, fun _ => ⟨_, HM.out.box.keep (Kept.drew _ _)⟩, fun _ => HM.out.more (Ext.refl _).drew⟩
    obtain ⟨g', g5, hr1, hpu⟩ := hp 5 (by decide)
    have e39 : ρ (.tmp 39) = _ := (hρ 39).trans g5
    have h0 : γ = 1 := by have h : γ < 2 := hN; omega
    subst h0
    have HI := Lib.hid (hi.2.2 (by omega))
    have HPU := Lib.hid (hpu rfl)
    clear hR hN hp hρ hi g5 hpu
    go_light
    go_simp
    have hx1 : Ext w' (w'.alloc (.cells #[.slice (some ⟨g', 0, none⟩) cols.length cols.length] 45)) := (Ext.refl _).alloc _
    have hod := HI.out.more hx1
    exact ⟨2, SR.up (by omega) ⟨by omega, fun _ => ⟨_, hod.box⟩, fun _ => hod⟩, SN.up (by omega) (by decide) rfl, _, g', rfl, by omega, fun _ => ⟨Blk.new _ _ _, HPU.out.ext hx1⟩⟩
  · refine LinStep.yes fun vals γ w' ρ hR hN hp hρ hc hf hg => ⟨rfl, ?_⟩
    have hi := hR.inv ⟨by omega, fun _ => ⟨_, HM.out.box.keep (Kept.drew _ _)⟩, fun _ => HM.out.more (Ext.refl _).drew⟩
    obtain ⟨g', g'', g6, hr2, hbk⟩ := hp 6 (by decide)
    have e40 : ρ (.tmp 40) = _ := (hρ 40).trans g6
    have e35 : ρ (.tmp 35) = _ := (hρ 35).trans (hp 1 (by decide))
    have h0 : γ = 2 := by have h : γ < 3 := hN; omega
    subst h0
    obtain ⟨hbk1, hbk2⟩ := hbk rfl
    have hod := hi.2.2 (by omega)
    obtain ⟨hs, ho1, huse⟩ := hbk2.use
    refine lin_app (.tmp 35) (.tmp 40) rfl tiR e35 ho1 e40 hbk1.rd rfl (by simp [Value.oneCell']) (by omega) (by decide) (by have h1 := hod.res.lt; omega) ?_
    intro A4 c4 w4 hown4 hg4 hat4
    have hoda := hod.appR hg4 (huse w4 A4 c4 (by rw [List.length_replicate]; exact hown4) hg4 hat4) hat4
    exact ⟨3, SR.up (by omega) ⟨by omega, fun _ => hoda.box, fun h => absurd h (by omega)⟩, SN.up (by omega) (by decide) rfl, A4, c4, rfl, by omega, fun _ => hoda⟩
  · refine LinStep.yes fun vals γ w' ρ hR hN hp hρ hc hf hg => ⟨rfl, ?_⟩
    have hi := hR.inv ⟨by omega, fun _ => ⟨_, HM.out.box.keep (Kept.drew _ _)⟩, fun _ => HM.out.more (Ext.refl _).drew⟩
    have e2 : ρ (.tmp 2) = .pointer (some ⟨w.heap.size, 0, none⟩) := hρ 2
    clear hR hN hp hρ hi
    go_light
    go_simp
    exact ⟨γ, SR.refl _ _ _, fun _ _ _ h => h, rfl⟩
  · refine LinStep.yes fun vals γ w' ρ hR hN hp hρ hc hf hg => ⟨rfl, ?_⟩
    have hi := hR.inv ⟨by omega, fun _ => ⟨_, HM.out.box.keep (Kept.drew _ _)⟩, fun _ => HM.out.more (Ext.refl _).drew⟩
    obtain ⟨A4, c4, g7, hr3, hda⟩ := hp 7 (by decide)
    have e41 : ρ (.tmp 41) = _ := (hρ 41).trans g7
    have e42 : ρ (.tmp 42) = _ := (hρ 42).trans (hp 8 (by decide))
    have h0 : γ = 3 := by have h : γ < 4 := hN; omega
    subst h0
    have HA := Lib.hid (hda rfl)
    obtain ⟨y, hy⟩ := (hda rfl).box
    have k0 := hy.cell (i := 2) rfl
    have kf := hy.frozen
    have kz := hy.lt
    clear hR hN hp hρ hi g7 hda hy
    go_light
    go_simp
    have hs := HA.out.store
    rw [List.length_append, List.length_singleton] at hs
    exact ⟨4, SR.up (by omega) ⟨by omega, fun h => absurd h (by omega), fun h => absurd h (by omega)⟩, SN.up (by omega) (by decide) rfl, by omega, fun _ => ⟨A4, c4, hs⟩⟩
  · intro vals γ w' hR hG
    have hi := hR.inv ⟨by omega, fun _ => ⟨_, HM.out.box.keep (Kept.drew _ _)⟩, fun _ => HM.out.more (Ext.refl _).drew⟩
    obtain ⟨h4, h5⟩ := hG 9 (by decide)
    obtain ⟨A4, c4, hm1⟩ := h5 (by have := hi.1; omega)
    have HM1 := Lib.hid hm1
    clear hR hG hi h4 h5 hm1 HM
    simp only [lexFrame, Act.put, List.setIfInBounds_toArray, List.set_cons_succ, List.set_cons_zero, Nat.zero_add, Nat.reduceAdd]
    generalize vals 0 = u0, vals 1 = u1, vals 2 = u2, vals 3 = u3, vals 4 = u4, vals 5 = u5, vals 6 = u6, vals 7 = u7, vals 8 = u8, vals 9 = u9
    go_upto_region 27 with fail
    obtain ⟨wf, hwf⟩ : ∃ wf, wf = w' := ⟨_, rfl⟩
    have HF := Lib.hid (show ∃ (t : Look) (A : Option Addr) (c : Nat) (B : Option Addr) (e : Nat), OF w t A c B e wf by rw [hwf]; exact ⟨_, _, _, _, _, HM1.out.fin hnm (by omega) (by simp; omega) (lens_app HR4.out ht2)⟩)
    rw [← hwf]
    clear hwf
    obtain ⟨t', A', c', B', e', hf⟩ := HF.out
    have HF := Lib.hid hf
    have f0 := hf.box.cell (i := 0) rfl
    have f1 := hf.box.cell (i := 1) rfl
    have f2 := hf.box.cell (i := 2) rfl
    have r0 := hf.res.cell (i := 0) rfl
    have r1 := hf.res.cell (i := 1) rfl
    have r2 := hf.res.cell (i := 2) rfl
    have rf := hf.res.frozen
    have rz := hf.res.lt
    clear hf d0 d1 d2 df dz g0 g1 g2 gz
    go_wp2
    all_goals refine bodyPost_ret (v := (.agg #[.string t'.name, .slice A' t'.cols.length c', .slice B' t'.rows.length e'])) (by simp [results, Tryz.results11, go_sem, r0, r1, r2]) rfl ⟨t', A', c', B', e', rfl, HF.out.cap, RL.mono (RL.keep HF.out.rl (K3 ?_)) fun b _ hb => by unfold Fresh; omega, E3 ?_⟩
    all_goals first | exact ⟨HF.out.ext, by omega⟩ | omega

set_option maxRecDepth 100000 in
set_option maxHeartbeats 4000000 in
theorem odd_6 (t : Look) (A B : Option Addr) (c e : Nat) (q0 q1 q2 : Int) (w : World) (S : Nat → Prop) (h : RL w S 2 t A B) (ht : OkT t) (hm : (q0.tmod 8 + 8) % 8 = 6) (N : Nat) (hN : (q1.tmod 8 + 8) % 8 = (N : Int)) (_hN7 : N < 8) : Calls Tryz.prog 11 #[(.agg #[.string t.name, .slice A t.cols.length c, .slice B t.rows.length e]), .agg #[.int .i64 q0, .int .i64 q1, .int .i64 q2]] w (RetOd w) := by
  have H := Lib.hid h
  obtain ⟨ht1, ht2, ht3, ht4⟩ := ht
  have HT4 := Lib.hid ht4
  obtain ⟨hb1, hb2⟩ := next_bd q0 8 (by omega)
  have hnm := h.1
  clear h ht4
  obtain ⟨W0, hW0⟩ : ∃ W0, W0 = ((w.alloc (.cells #[.string t.name, .slice A t.cols.length c, .slice B t.rows.length e] 28)).alloc (.cells #[.int .i64 q0, .int .i64 q1, .int .i64 q2] 23)).alloc (.cells #[.string ⟨#[]⟩, .slice none 0 0, .slice none 0 0] 28) := ⟨_, rfl⟩
  have HW0 := Lib.hid hW0
  have hx0 : Ext w W0 := by rw [hW0]; exact (((Ext.refl w).alloc _).alloc _).alloc _
  have b0 : Blk W0 w.heap.size 28 #[.string t.name, .slice A t.cols.length c, .slice B t.rows.length e] := by rw [hW0]; exact ((Blk.new _ _ _).keep (Kept.alloc _ _ _)).keep (Kept.alloc _ _ _)
  have b1 : Blk W0 (w.heap.size + 1) 23 #[.int .i64 q0, .int .i64 q1, .int .i64 q2] := by
    rw [hW0]
    have := (Blk.new (w.alloc (.cells #[.string t.name, .slice A t.cols.length c, .slice B t.rows.length e] 28)) 23 #[.int .i64 q0, .int .i64 q1, .int .i64 q2]).keep (Kept.alloc _ _ (.cells #[.string ⟨#[]⟩, .slice none 0 0, .slice none 0 0] 28))
    simpa using this
  have b2 : Blk W0 (w.heap.size + 1 + 1) 28 #[.string ⟨#[]⟩, .slice none 0 0, .slice none 0 0] := by
    rw [hW0]
    have := Blk.new ((w.alloc (.cells #[.string t.name, .slice A t.cols.length c, .slice B t.rows.length e] 28)).alloc (.cells #[.int .i64 q0, .int .i64 q1, .int .i64 q2] 23)) 28 #[.string ⟨#[]⟩, .slice none 0 0, .slice none 0 0]
    simpa using this
  have hs0 : W0.heap.size = w.heap.size + 3 := by rw [hW0]; simp
  have HX0 := Lib.hid hx0
  have HB0 := Lib.hid b0
  have HB1 := Lib.hid b1
  have HB2 := Lib.hid b2
  have HS0 := Lib.hid hs0
  clear hW0 hx0 b0 b1 b2 hs0
  go_enter Tryz.func11, Tryz.ntmps11
  go_wp2_with fail
  rw [← HW0.out]
  refine (r09_Copy 2 t A B c e W0 S (H.out.keep (HX0.out.kept S))).mono ?_
  rintro e1 w1 ⟨Ac, cc, Ar, cr, rfl, hoc, hor, hsep, hx1⟩
  rw [HS0.out] at hoc hor
  have HM1 := Lib.hid (show OD w q0 q1 q2 t.name Ac cc t.cols Ar cr t.rows (((w1.setCell ⟨w.heap.size, 0, none⟩ (.string t.name)).setCell ⟨w.heap.size, 1, none⟩ (.slice Ac t.cols.length cc)).setCell ⟨w.heap.size, 2, none⟩ (.slice Ar t.rows.length cr)) by
    have ho := (((Only.refl w.heap.size w1).set 0 (.string t.name)).set 1 (.slice Ac t.cols.length cc)).set 2 (.slice Ar t.rows.length cr)
    refine ⟨(HX0.out.trans hx1).only ho (by omega), ?_, (HB1.out.keep (hx1.kept _)).keep (ho.kept fun b _ e => by omega), (HB2.out.keep (hx1.kept _)).keep (ho.kept fun b _ e => by omega), ⟨ho.own hoc.1 (by omega), hoc.2⟩, hor.keep (ho.kept fun b _ e => by omega) (fun b hb hb' => hsep b hb' hb), hsep⟩
    have := (((HB0.out.keep (hx1.kept _)).set 0 (.string t.name)).set 1 (.slice Ac t.cols.length cc)).set 2 (.slice Ar t.rows.length cr)
    simpa using this)
  have q5 := HB0.out.keep (hx1.kept _)
  have k50 := q5.cell (i := 0) rfl
  have k51 := q5.cell (i := 1) rfl
  have k52 := q5.cell (i := 2) rfl
  have kf := q5.frozen
  have kz := q5.lt
  clear hoc hor hsep hx1 q5 HX0 HB0 HB1 HB2 HS0 HW0
  go_upto_region 2 with fail
  obtain ⟨w2, hw2⟩ : ∃ w2, w2 = (((w1.setCell ⟨w.heap.size, 0, none⟩ (.string t.name)).setCell ⟨w.heap.size, 1, none⟩ (.slice Ac t.cols.length cc)).setCell ⟨w.heap.size, 2, none⟩ (.slice Ar t.rows.length cr)) := ⟨_, rfl⟩
  rw [← hw2] at HM1
  rw [← hw2]
  clear hw2 k50 k51 k52 kf kz
  obtain ⟨cols, hcols⟩ : ∃ cols, cols = t.cols := ⟨_, rfl⟩
  obtain ⟨rows, hrows⟩ : ∃ rows, rows = t.rows := ⟨_, rfl⟩
  obtain ⟨nm, hnmE⟩ : ∃ nm, nm = t.name := ⟨_, rfl⟩
  rw [← hcols, ← hrows, ← hnmE] at HM1
  rw [← hcols] at ht1 ht2 HT4
  rw [← hrows] at ht3 HT4
  rw [← hnmE] at hnm
  clear hcols hrows hnmE
  have HM := HM1
  have d0 := HM1.out.box.cell (i := 0) rfl
  have d1 := HM1.out.box.cell (i := 1) rfl
  have d2 := HM1.out.box.cell (i := 2) rfl
  have df := HM1.out.box.frozen
  have dz := HM1.out.box.lt
  have g0 := HM1.out.qb.cell (i := 0) rfl
  have g1 := HM1.out.qb.cell (i := 1) rfl
  have g2 := HM1.out.qb.cell (i := 2) rfl
  have gz := HM1.out.qb.lt
  have HR4 := Lib.hid (show ∀ r ∈ rows, r.length ≤ 4294967296 from fun r hr => by rw [HT4.out r hr]; omega)
  obtain ⟨hc1, hc2⟩ := next_bd q1 8 (by omega)
  go_wp2
  obtain ⟨rows0, hrows0⟩ : ∃ rows0, rows0 = rows := ⟨_, rfl⟩
  have HRO := Lib.hid hrows0
  clear hrows0 d0 d1 d2 df dz g0 g1 g2 gz
  go_loopw [6] (fun i wr => ∃ (k : Nat) (Ar : Option Addr) (cr : Nat) (rows : List (List Val)), k ≤ 95 + N ∧ i = .int .i64 k ∧ rows.length = rows0.length + k ∧ (∀ r ∈ rows, r.length ≤ 4294967296) ∧ OD w q0 q1 q2 nm Ac cc cols Ar cr rows wr) (fun i _ => 95 + N - (intOf i).toNat)
  case atStart => exact ⟨0, Ar, cr, rows, Nat.zero_le _, rfl, by rw [HRO.out]; rfl, HR4.out, HM.out⟩
  case round =>
    rw [← HRO.out] at ht3
    clear HM HM1 HR4 HT4 HRO
    obtain ⟨k, Ar, cr, rows, hk, rfl, hrl, hr4, hm0⟩ := hrel
    have HM := Lib.hid hm0
    have HR4 := Lib.hid hr4
    have HRL := Lib.hid hrl
    have hrl2 : rows.length ≤ 108 := by omega
    have d0 := hm0.box.cell (i := 0) rfl
    have d1 := hm0.box.cell (i := 1) rfl
    have d2 := hm0.box.cell (i := 2) rfl
    have df := hm0.box.frozen
    have dz := hm0.box.lt
    have g0 := hm0.qb.cell (i := 0) rfl
    have g1 := hm0.qb.cell (i := 1) rfl
    have g2 := hm0.qb.cell (i := 2) rfl
    have gz := hm0.qb.lt
    clear hm0 hr4 hrl
    by_cases hlt : k < 95 + N
    · go_upto_region 23 with fail
      refine wp_region_lin_lit (by kernel_rfl) dOdA (by kernel_rfl) (SR (OdAInv w q0 q1 q2 nm Ac cc cols Ar cr rows)) (SR.refl _) (SR.trans _) (SN stOdA) (gOdA w q0 q1 q2 nm Ac cc cols Ar cr rows) (gOdA_st _ _ _ _ _ _ _ _ _ _ _) 0 (SN.zero (by decide)) ⟨?_, ?_, ?_, ?_, ?_, ?_, ?_, ?_, ?_, ?_, trivial⟩ ?_
      · refine LinStep.yes fun vals γ w' ρ hR hN hp hρ hc hf hg => ⟨rfl, ?_⟩
        have hi := hR.inv ⟨by omega, fun _ => ⟨_, HM.out.box.keep (Kept.drew _ _)⟩, fun _ => HM.out.more (Ext.refl _).drew⟩
        have e2 : ρ (.tmp 2) = .pointer (some ⟨w.heap.size, 0, none⟩) := hρ 2
        clear hR hN hp hρ hi
        go_light
        go_simp
        exact ⟨γ, SR.refl _ _ _, fun _ _ _ h => h, rfl⟩
      · refine LinStep.yes fun vals γ w' ρ hR hN hp hρ hc hf hg => ⟨rfl, ?_⟩
        have hi := hR.inv ⟨by omega, fun _ => ⟨_, HM.out.box.keep (Kept.drew _ _)⟩, fun _ => HM.out.more (Ext.refl _).drew⟩
        have e115 : ρ (.tmp 115) = _ := (hρ 115).trans (hp 0 (by decide))
        have hb := (hi.2.2 (by have h : γ < 3 := hN; omega)).box
        have k1 := hb.cell (i := 2) rfl
        clear hR hN hp hρ hi hb
        go_light
        go_simp
        exact ⟨γ, SR.refl _ _ _, fun _ _ _ h => h, rfl⟩
      · refine LinStep.yes fun vals γ w' ρ hR hN hp hρ hc hf hg => ⟨rfl, ?_⟩
        have hi := hR.inv ⟨by omega, fun _ => ⟨_, HM.out.box.keep (Kept.drew _ _)⟩, fun _ => HM.out.more (Ext.refl _).drew⟩
        have e2 : ρ (.tmp 2) = .pointer (some ⟨w.heap.size, 0, none⟩) := hρ 2
        clear hR hN hp hρ hi
        go_light
        go_simp
        exact ⟨γ, SR.refl _ _ _, fun _ _ _ h => h, rfl⟩
      · refine LinStep.yes fun vals γ w' ρ hR hN hp hρ hc hf hg => ⟨rfl, ?_⟩
        have hi := hR.inv ⟨by omega, fun _ => ⟨_, HM.out.box.keep (Kept.drew _ _)⟩, fun _ => HM.out.more (Ext.refl _).drew⟩
        have e117 : ρ (.tmp 117) = _ := (hρ 117).trans (hp 2 (by decide))
        obtain ⟨y, hb⟩ := hi.2.1 (by have h : γ < 4 := hN; omega)
        have k1 := hb.cell (i := 1) rfl
        clear hR hN hp hρ hi hb
        go_light
        go_simp
        exact ⟨γ, SR.refl _ _ _, fun _ _ _ h => h, rfl⟩
      · refine LinStep.yes fun vals γ w' ρ hR hN hp hρ hc hf hg => ⟨rfl, ?_⟩
        have hi := hR.inv ⟨by omega, fun _ => ⟨_, HM.out.box.keep (Kept.drew _ _)⟩, fun _ => HM.out.more (Ext.refl _).drew⟩
        have e118 : ρ (.tmp 118) = _ := (hρ 118).trans (hp 3 (by decide))
        clear hR hN hp hρ hi
        go_light
        go_simp
        exact ⟨γ, SR.refl _ _ _, fun _ _ _ h => h, rfl⟩
      · refine LinStep.yes fun vals γ w' ρ hR hN hp hρ hc hf hg => ⟨rfl, ?_⟩
        have hi := hR.inv ⟨by omega, fun _ => ⟨_, HM.out.box.keep (Kept.drew _ _)⟩, fun _ => HM.out.more (Ext.refl _).drew⟩
        have e119 : ρ (.tmp 119) = _ := (hρ 119).trans (hp 4 (by decide))
        have h0 : γ = 0 := by have h : γ < 1 := hN; omega
        subst h0
        have HI := Lib.hid (hi.2.2 (by omega))
        have hmk := run_mkV cols.length (by omega)
        clear hR hN hp hρ hi
        go_light
        go_simp
        have hx1 : Ext w' (w'.alloc (.cells (zeroRow cols.length) 33)) := (Ext.refl _).alloc _
        have hod := HI.out.more hx1
        exact ⟨1, SR.up (by omega) ⟨by omega, fun _ => ⟨_, hod.box⟩, fun _ => hod⟩, SN.up (by omega) (by decide) rfl, _, rfl, by omega, fun _ => RRpush.of HI.out.rows (fun b hb => (HI.out.cols.1.blk hb).2) (OwnVs.zeros w' cols.length 2 (by decide) (by omega)) hx1⟩
      · refine LinStep.yes fun vals γ w' ρ hR hN hp hρ hc hf hg => ⟨rfl, ?_⟩
        have hi := hR.inv ⟨by omega, fun _ => ⟨_, HM.out.box.keep (Kept.drew _ _)⟩, fun _ => HM.out.more (Ext.refl _).drew⟩
        obtain ⟨g', g5, hr1, hpu⟩ := hp 5 (by decide)
        have e120 : ρ (.tmp 120) = _ := (hρ 120).trans g5
        have h0 : γ = 1 := by have h : γ < 2 := hN; omega
        subst h0
        have HI := Lib.hid (hi.2.2 (by omega))
        have HPU := Lib.hid (hpu rfl)
        clear hR hN hp hρ hi g5 hpu
        go_light
        go_simp
        have hx1 : Ext w' (w'.alloc (.cells #[.slice (some ⟨g', 0, none⟩) cols.length cols.length] 45)) := (Ext.refl _).alloc _
        have hod := HI.out.more hx1
        exact ⟨2, SR.up (by omega) ⟨by omega, fun _ => ⟨_, hod.box⟩, fun _ => hod⟩, SN.up (by omega) (by decide) rfl, _, g', rfl, by omega, fun _ => ⟨Blk.new _ _ _, HPU.out.ext hx1⟩⟩
      · refine LinStep.yes fun vals γ w' ρ hR hN hp hρ hc hf hg => ⟨rfl, ?_⟩
        have hi := hR.inv ⟨by omega, fun _ => ⟨_, HM.out.box.keep (Kept.drew _ _)⟩, fun _ => HM.out.more (Ext.refl _).drew⟩
        obtain ⟨g', g'', g6, hr2, hbk⟩ := hp 6 (by decide)
        have e121 : ρ (.tmp 121) = _ := (hρ 121).trans g6
        have e116 : ρ (.tmp 116) = _ := (hρ 116).trans (hp 1 (by decide))
        have h0 : γ = 2 := by have h : γ < 3 := hN; omega
        subst h0
        obtain ⟨hbk1, hbk2⟩ := hbk rfl
        have hod := hi.2.2 (by omega)
        obtain ⟨hs, ho1, huse⟩ := hbk2.use
        refine lin_app (.tmp 116) (.tmp 121) rfl tiR e116 ho1 e121 hbk1.rd rfl (by simp [Value.oneCell']) (by omega) (by decide) (by have h1 := hod.res.lt; omega) ?_
        intro A4 c4 w4 hown4 hg4 hat4
        have hoda := hod.appR hg4 (huse w4 A4 c4 (by rw [List.length_replicate]; exact hown4) hg4 hat4) hat4
        exact ⟨3, SR.up (by omega) ⟨by omega, fun _ => hoda.box, fun h => absurd h (by omega)⟩, SN.up (by omega) (by decide) rfl, A4, c4, rfl, by omega, fun _ => hoda⟩
      · refine LinStep.yes fun vals γ w' ρ hR hN hp hρ hc hf hg => ⟨rfl, ?_⟩
        have hi := hR.inv ⟨by omega, fun _ => ⟨_, HM.out.box.keep (Kept.drew _ _)⟩, fun _ => HM.out.more (Ext.refl _).drew⟩
        have e2 : ρ (.tmp 2) = .pointer (some ⟨w.heap.size, 0, none⟩) := hρ 2
        clear hR hN hp hρ hi
        go_light
        go_simp
        exact ⟨γ, SR.refl _ _ _, fun _ _ _ h => h, rfl⟩
      · refine LinStep.yes fun vals γ w' ρ hR hN hp hρ hc hf hg => ⟨rfl, ?_⟩
        have hi := hR.inv ⟨by omega, fun _ => ⟨_, HM.out.box.keep (Kept.drew _ _)⟩, fun _ => HM.out.more (Ext.refl _).drew⟩
        obtain ⟨A4, c4, g7, hr3, hda⟩ := hp 7 (by decide)
        have e122 : ρ (.tmp 122) = _ := (hρ 122).trans g7
        have e123 : ρ (.tmp 123) = _ := (hρ 123).trans (hp 8 (by decide))
        have h0 : γ = 3 := by have h : γ < 4 := hN; omega
        subst h0
        have HA := Lib.hid (hda rfl)
        obtain ⟨y, hy⟩ := (hda rfl).box
        have k0 := hy.cell (i := 2) rfl
        have kf := hy.frozen
        have kz := hy.lt
        clear hR hN hp hρ hi g7 hda hy
        go_light
        go_simp
        have hs := HA.out.store
        rw [List.length_append, List.length_singleton] at hs
        exact ⟨4, SR.up (by omega) ⟨by omega, fun h => absurd h (by omega), fun h => absurd h (by omega)⟩, SN.up (by omega) (by decide) rfl, by omega, fun _ => ⟨A4, c4, hs⟩⟩
      · intro vals γ w' hR hG
        have hi := hR.inv ⟨by omega, fun _ => ⟨_, HM.out.box.keep (Kept.drew _ _)⟩, fun _ => HM.out.more (Ext.refl _).drew⟩
        obtain ⟨h4, h5⟩ := hG 9 (by decide)
        obtain ⟨A4, c4, hm1⟩ := h5 (by have := hi.1; omega)
        have HM1 := Lib.hid hm1
        clear hR hG hi h4 h5 hm1 HM
        simp only [lexFrame, Act.put, List.setIfInBounds_toArray, List.set_cons_succ, List.set_cons_zero, Nat.zero_add, Nat.reduceAdd]
        generalize vals 0 = u0, vals 1 = u1, vals 2 = u2, vals 3 = u3, vals 4 = u4, vals 5 = u5, vals 6 = u6, vals 7 = u7, vals 8 = u8, vals 9 = u9
        go_wp2
        go_roundw
        case rel => exact ⟨k + 1, A4, c4, _, by omega, by go_num, by rw [List.length_append, HRL.out]; simp; omega, lens_app HR4.out ht2, HM1.out⟩
        case measure => simp [intOf]; omega
    · go_upto_region 27 with fail
      obtain ⟨wf, hwf⟩ : ∃ wf, wf = wr := ⟨_, rfl⟩
      have HF := Lib.hid (show ∃ (t : Look) (A : Option Addr) (c : Nat) (B : Option Addr) (e : Nat), OF w t A c B e wf by rw [hwf]; exact ⟨_, _, _, _, _, HM.out.fin hnm (by omega) (by omega) HR4.out⟩)
      rw [← hwf]
      clear hwf
      obtain ⟨t', A', c', B', e', hf⟩ := HF.out
      have HF := Lib.hid hf
      have f0 := hf.box.cell (i := 0) rfl
      have f1 := hf.box.cell (i := 1) rfl
      have f2 := hf.box.cell (i := 2) rfl
      have r0 := hf.res.cell (i := 0) rfl
      have r1 := hf.res.cell (i := 1) rfl
      have r2 := hf.res.cell (i := 2) rfl
      have rf := hf.res.frozen
      have rz := hf.res.lt
      clear hf d0 d1 d2 df dz g0 g1 g2 gz
      go_wp2
      all_goals refine bodyPost_ret (v := (.agg #[.string t'.name, .slice A' t'.cols.length c', .slice B' t'.rows.length e'])) (by simp [results, Tryz.results11, go_sem, r0, r1, r2]) rfl ⟨t', A', c', B', e', rfl, HF.out.cap, RL.mono (RL.keep HF.out.rl (K3 ?_)) fun b _ hb => by unfold Fresh; omega, E3 ?_⟩
      all_goals first | exact ⟨HF.out.ext, by omega⟩ | omega
end Go.Proofs.YtcmmkeiiapbgcaaGreatDoor
/- The reference's numbers of bytes: Canon, Int, Of, small. No conditions but bounds on sizes. -/
namespace Go.Proofs.YtcmmkeiiapbgcaaGreatDoor
open Go Go.RowKit

/-- The number that bytes are, the most significant one first. -/
def nvl (l : List UInt8) : Nat := l.foldl (fun a b => a * 256 + b.toNat) 0
def nval (s : ByteArray) : Nat := nvl s.data.toList
/-- No zero in front. -/
def canB (s : ByteArray) : Prop := s.data.toList.head? ≠ some 0
theorem nvl_snoc (l : List UInt8) (b : UInt8) : nvl (l ++ [b]) = nvl l * 256 + b.toNat := by simp [nvl, List.foldl_append]
theorem nvl_from (l : List UInt8) (a : Nat) : l.foldl (fun a b => a * 256 + b.toNat) a = a * 256 ^ l.length + nvl l := by
  induction l generalizing a with
  | nil => simp [nvl]
  | cons b l ih =>
    simp only [List.foldl_cons, nvl, List.length_cons]
    rw [ih, ih (0 * 256 + b.toNat)]
    rw [Nat.pow_succ, Nat.zero_mul, Nat.zero_add]
    have : (a * 256 + b.toNat) * 256 ^ l.length = a * (256 ^ l.length * 256) + b.toNat * 256 ^ l.length := by
      rw [Nat.add_mul, Nat.mul_assoc, Nat.mul_comm 256]
    omega
theorem nvl_cons (b : UInt8) (l : List UInt8) : nvl (b :: l) = b.toNat * 256 ^ l.length + nvl l := by
  have := nvl_from l (0 * 256 + b.toNat)
  simpa [nvl] using this
theorem nvl_lt : ∀ l : List UInt8, nvl l < 256 ^ l.length
  | [] => by simp [nvl]
  | b :: l => by
    rw [nvl_cons, List.length_cons, Nat.pow_succ]
    have h1 := nvl_lt l
    have h2 : b.toNat < 256 := b.toNat_lt
    have h3 : b.toNat * 256 ^ l.length ≤ 255 * 256 ^ l.length := Nat.mul_le_mul_right _ (by omega)
    omega
theorem nvl_zeros : ∀ (k : Nat) (l : List UInt8), (∀ j (h : j < l.length), j < k → l[j] = 0) → nvl l = nvl (l.drop k)
  | 0, l, _ => rfl
  | k + 1, [], _ => by simp
  | k + 1, b :: l, h => by
    have h0 : b = 0 := h 0 (by simp) (by omega)
    subst h0
    rw [nvl_cons, List.drop_succ_cons]
    have := nvl_zeros k l fun j hj hk => h (j + 1) (by simpa using hj) (by omega)
    rw [← this]
    simp
/-- A canonical number has as many bytes as it needs. -/
theorem nvl_low (b : UInt8) (l : List UInt8) (h : b ≠ 0) : 256 ^ l.length ≤ nvl (b :: l) := by
  rw [nvl_cons]
  have h1 : 1 ≤ b.toNat := by
    rcases Nat.eq_zero_or_pos b.toNat with h0 | h0
    · exact absurd (UInt8.toNat_inj.1 (by simpa using h0)) h
    · exact h0
  have := Nat.mul_le_mul_right (256 ^ l.length) h1
  omega
theorem can_size {s : ByteArray} (h : canB s) {k : Nat} : s.size ≤ k ↔ nval s < 256 ^ k := by
  have hsz : s.size = s.data.toList.length := by simp
  unfold canB at h
  unfold nval
  rw [hsz]
  generalize s.data.toList = l at *
  constructor
  · intro hk
    exact Nat.lt_of_lt_of_le (nvl_lt l) (Nat.pow_le_pow_right (by omega) hk)
  · intro hk
    cases l with
    | nil => simp
    | cons b l =>
      have h0 : b ≠ 0 := by simpa using h
      have h1 := nvl_low b l h0
      have h2 : 256 ^ l.length < 256 ^ k := Nat.lt_of_le_of_lt h1 hk
      have := (Nat.pow_lt_pow_iff_right (a := 256) (by omega)).1 h2
      simp
      omega
theorem can_nil {s : ByteArray} (h : canB s) : s.size = 0 ↔ nval s = 0 := by
  have := can_size h (k := 0)
  rw [Nat.pow_zero] at this
  omega
theorem bs_toList_at (s : ByteArray) (k : Nat) (h : k < s.size) : s.data.toList[k]'(by simpa using h) = s[k] := by simp; rfl

def SameT (w : World) (s : ByteArray) (e : Ending) (w' : World) : Prop := e = .returned (.string s) ∧ w = w'
def dropZ (s : ByteArray) (k : Nat) : Prop := ∀ j (h : j < s.size), j < k → s[j] = 0
theorem canon_of {s : ByteArray} {k : Nat} (_hk : k ≤ s.size) (hz : dropZ s k) (hn : ∀ h : k < s.size, s[k] ≠ 0) : nval (s.extract k s.size) = nval s ∧ canB (s.extract k s.size) ∧ (s.extract k s.size).size ≤ s.size := by
  have he : (s.extract k s.size).data.toList = s.data.toList.drop k := by
    simp [ByteArray.data_extract]
    exact List.take_of_length_le (by simp)
  refine ⟨?_, ?_, by simp⟩
  · unfold nval
    rw [he]
    exact (nvl_zeros k _ fun j h hj => by rw [bs_toList_at s j (by simpa using h)]; exact hz j (by simpa using h) hj).symm
  · unfold canB
    rw [he, List.head?_drop]
    rcases Nat.lt_or_ge k s.size with h | h
    · rw [List.getElem?_eq_getElem (by simpa using h), bs_toList_at s k h]
      intro hh
      exact hn h (Option.some.inj hh)
    · rw [List.getElem?_eq_none (by simpa using h)]
      simp

set_option maxRecDepth 100000 in
set_option maxHeartbeats 400000 in
theorem r01_Canon (s : ByteArray) (hs : s.size ≤ 4294967296) (w : World) : Calls Tryz.prog 149 #[.string s] w (fun e w' => ∃ r, SameT w r e w' ∧ nval r = nval s ∧ canB r ∧ r.size ≤ s.size) := by
  go_enter Tryz.func149, Tryz.ntmps149
  go_wp2
  go_loop [3] (fun i => ∃ k : Nat, k ≤ s.size ∧ i = .int .i64 k ∧ dropZ s k) (fun i => s.size - (intOf i).toNat)
  case atStart => exact ⟨0, Nat.zero_le _, rfl, fun _ _ h => by omega⟩
  case round =>
    obtain ⟨k, hk, rfl, hz⟩ := hrel
    have HZ := Lib.hid hz
    clear hz
    by_cases hlt : k < s.size
    · by_cases h0 : s[k] = 0
      · have h0' : ((s[k].toNat : Int) == 0) = true := by simp [h0]
        have H0 := Lib.hid h0
        clear h0
        go_wp2
        go_round
        case rel =>
          refine ⟨k + 1, by omega, by go_num, fun j h hj => ?_⟩
          by_cases hjk : j = k
          · subst hjk; exact H0.out
          · exact HZ.out j h (by omega)
        case measure => simp [intOf]; omega
      · have h0' : ((s[k].toNat : Int) == 0) = false := by
          have : s[k].toNat ≠ 0 := fun e => h0 (UInt8.toNat_inj.1 (by simpa using e))
          simp; omega
        have H0 := Lib.hid (canon_of hk HZ.out fun _ => h0)
        clear h0
        go_wp2
        go_ret
        exact ⟨_, ⟨rfl, rfl⟩, H0.out⟩
    · have H0 := Lib.hid (canon_of hk HZ.out fun h => absurd h hlt)
      go_wp2
      go_ret
      exact ⟨_, ⟨rfl, rfl⟩, H0.out⟩
end Go.Proofs.YtcmmkeiiapbgcaaGreatDoor
