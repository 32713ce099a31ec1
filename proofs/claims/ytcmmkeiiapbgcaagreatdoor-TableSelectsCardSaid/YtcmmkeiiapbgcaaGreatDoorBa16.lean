/- The reference's Where. Conditions: the arguments read as data. -/
import Derived.Test.YtcmmkeiiapbgcaaGreatDoorBa15
namespace Go.Proofs.YtcmmkeiiapbgcaaGreatDoor
open Go Go.RowKit
def WhBInv (w w0 : World) (lo : Nat) (X : Nat → Prop) (d go : Nat) (Ac : Option Addr) (cc : Nat) (cols : List ByteArray) (Ar : Option Addr) (cr : Nat) (rows : List (List Val)) (_r : List Val) (_C : Option Addr) (_ec : Nat) (_k : Nat) (_B : Option Addr) (_n _e _b _o : Nat) (γ : Nat) (w' : World) : Prop := γ ≤ 3 ∧ (γ ≤ 1 → OutT w w0 lo X d go Ac cc cols Ar cr rows w') ∧ (γ ≤ 2 → Kept (fun b => b < lo ∧ b ≠ go) w0 w')
def gWhB (w w0 : World) (lo : Nat) (X : Nat → Prop) (d go : Nat) (Ac : Option Addr) (cc : Nat) (cols : List ByteArray) (Ar : Option Addr) (cr : Nat) (rows : List (List Val)) (r : List Val) (C : Option Addr) (ec : Nat) (k : Nat) (_B : Option Addr) (n e b o : Nat) : Nat → List Value → Nat → World → Prop
  | 0, [v], _, _ => v = .pointer (some ⟨go, 6, none⟩)
  | 1, [v], _, _ => v = .slice Ar rows.length cr
  | 2, [v], _, _ => v = .pointer (some ⟨w.heap.size, 6, none⟩)
  | 3, [v], _, _ => v = .slice (some ⟨b, o, none⟩) n e
  | 4, [v], _, _ => v = .int .i64 (k : Int)
  | 5, [v], _, _ => v = .pointer (some ⟨b, o + k, none⟩)
  | 6, [v], _, _ => v = .slice C r.length ec
  | 7, [v], γ, w' => ∃ (g : Nat) (A3 : Option Addr) (c3 : Nat), v = .slice (some ⟨g, 0, none⟩) 1 1 ∧ 1 ≤ γ ∧ (γ = 1 → Blk w' g 45 #[.slice A3 r.length c3] ∧ Row w' (fun b => ob Ar ≠ some b ∧ X b ∧ b ≠ go) d A3 r ∧ r.length ≤ c3)
  | 8, [v], γ, w' => ∃ (A4 : Option Addr) (c4 : Nat), v = .slice A4 (rows.length + 1) c4 ∧ 2 ≤ γ ∧ (γ = 2 → OutTA w w0 lo X d go Ac cc cols A4 c4 (rows ++ [r]) w')
  | 9, [v], _, _ => v = .pointer (some ⟨go, 6, none⟩)
  | 10, [_], γ, w' => 3 ≤ γ ∧ (γ = 3 → ∃ (A4 : Option Addr) (c4 : Nat), OutT w w0 lo X d go Ac cc cols A4 c4 (rows ++ [r]) w')
  | _, _, _, _ => True
theorem gWhB_st (w w0 : World) (lo : Nat) (X : Nat → Prop) (d go : Nat) (Ac : Option Addr) (cc : Nat) (cols : List ByteArray) (Ar : Option Addr) (cr : Nat) (rows : List (List Val)) (r : List Val) (C : Option Addr) (ec : Nat) (k : Nat) (B : Option Addr) (n e b o : Nat) : ∀ i l' γ v γ' v', SR (WhBInv w w0 lo X d go Ac cc cols Ar cr rows r C ec k B n e b o) γ v γ' v' → gWhB w w0 lo X d go Ac cc cols Ar cr rows r C ec k B n e b o i l' γ v → gWhB w w0 lo X d go Ac cc cols Ar cr rows r C ec k B n e b o i l' γ' v' := by
  intro i l' γ v γ' v' r h
  have hle := r.le
  unfold gWhB at h ⊢
  split at h
  all_goals first
    | exact h
    | (obtain ⟨h1, h2⟩ := h; exact ⟨h1, by omega⟩)
    | (obtain ⟨h1, h3, h4⟩ := h; exact ⟨h1, by omega, fun e => by rw [r.eq (by omega)]; exact h4 (by omega)⟩)
    | (obtain ⟨x0, h1, h3, h4⟩ := h; exact ⟨x0, h1, by omega, fun e => by rw [r.eq (by omega)]; exact h4 (by omega)⟩)
    | (obtain ⟨x0, x1, h1, h3, h4⟩ := h; exact ⟨x0, x1, h1, by omega, fun e => by rw [r.eq (by omega)]; exact h4 (by omega)⟩)
    | (obtain ⟨x0, x1, x2, h1, h3, h4⟩ := h; exact ⟨x0, x1, x2, h1, by omega, fun e => by rw [r.eq (by omega)]; exact h4 (by omega)⟩)
    | (obtain ⟨x0, x1, x2, x3, h1, h3, h4⟩ := h; exact ⟨x0, x1, x2, x3, h1, by omega, fun e => by rw [r.eq (by omega)]; exact h4 (by omega)⟩)
    | (obtain ⟨x0, x1, x2, x3, x4, h1, h3, h4⟩ := h; exact ⟨x0, x1, x2, x3, x4, h1, by omega, fun e => by rw [r.eq (by omega)]; exact h4 (by omega)⟩)
    | (obtain ⟨h3, h4⟩ := h; exact ⟨by omega, fun e => by rw [r.eq (by omega)]; exact h4 (by omega)⟩)
def dWhB : Nat → List Nat := fun i => [i]
def stWhB : List Nat := [100, 2, 100, 3, 100, 100, 3, 1, 2, 100, 3]
def vW11 (wb : World) (t : Val) (e : Nat) (b : Nat) (o : Nat) (k : Nat) (v0 : Val) (Av : Option Addr) (cv : Nat) (Bv : Option Addr) (ev : Nat) (C : Option Addr) (n : Nat) (ec : Nat) (m : Nat) (b2 : Nat) (o2 : Nat) (y : Val) (Ay : Option Addr) (cy : Nat) (By : Option Addr) (ey : Nat) (fb : Bool) : Nat → Value
  | 0 => .pointer (some ⟨wb.heap.size, 6, none⟩)
  | 1 => .slice (some ⟨b, o, none⟩) t.rows.length e
  | 2 => .int .i64 (k : Int)
  | 3 => .pointer (some ⟨b, o + k, none⟩)
  | 4 => .slice C n ec
  | 5 => .int .i64 (m : Int)
  | 6 => .pointer (some ⟨b2, o2 + m * 7, none⟩)
  | 7 => (.agg #[.int .i64 y.kind, .string y.s, .int .i64 y.dn, .int .i64 y.ds, .int .i64 y.n, .slice Ay y.cols.length cy, .slice By y.rows.length ey])
  | 8 => (.agg #[.int .i64 v0.kind, .string v0.s, .int .i64 v0.dn, .int .i64 v0.ds, .int .i64 v0.n, .slice Av v0.cols.length cv, .slice Bv v0.rows.length ev])
  | 9 => .bool fb
  | 10 => .bool fb
  | _ => undef
def gW11 (wb : World) (t : Val) (e : Nat) (b : Nat) (o : Nat) (k : Nat) (v0 : Val) (Av : Option Addr) (cv : Nat) (Bv : Option Addr) (ev : Nat) (C : Option Addr) (n : Nat) (ec : Nat) (m : Nat) (b2 : Nat) (o2 : Nat) (y : Val) (Ay : Option Addr) (cy : Nat) (By : Option Addr) (ey : Nat) (fb : Bool) (ix : Nat) (vl : List Value) (_γ : Gh) (_w' : World) : Prop := match vl with
  | [v] => v = vW11 wb t e b o k v0 Av cv Bv ev C n ec m b2 o2 y Ay cy By ey fb ix
  | _ => True
theorem gW11_st (wb : World) (t : Val) (e : Nat) (b : Nat) (o : Nat) (k : Nat) (v0 : Val) (Av : Option Addr) (cv : Nat) (Bv : Option Addr) (ev : Nat) (C : Option Addr) (n : Nat) (ec : Nat) (m : Nat) (b2 : Nat) (o2 : Nat) (y : Val) (Ay : Option Addr) (cy : Nat) (By : Option Addr) (ey : Nat) (fb : Bool) : ∀ ix vl γ w γ' w', LR γ w γ' w' → gW11 wb t e b o k v0 Av cv Bv ev C n ec m b2 o2 y Ay cy By ey fb ix vl γ w → gW11 wb t e b o k v0 Av cv Bv ev C n ec m b2 o2 y Ay cy By ey fb ix vl γ' w' := by
  intro ix vl γ w γ' w' r h
  match vl, h with
  | [v], h =>
    unfold gW11 at h ⊢
    exact h
  | [], _ => trivial
  | _ :: _ :: _, _ => trivial
set_option maxRecDepth 100000 in
set_option maxHeartbeats 4000000 in
theorem r09_Where (d : Nat) (t : Val) (col : ByteArray) (v0 : Val) (A B Av Bv : Option Addr) (c e cv ev : Nat) (w : World) (S T : Nat → Prop) (h : RV w S d t A B) (_hcap : t.cols.length ≤ c) (hv : RV w T d v0 Av Bv) :
    Calls Tryz.prog 31 #[(.agg #[.int .i64 t.kind, .string t.s, .int .i64 t.dn, .int .i64 t.ds, .int .i64 t.n, .slice A t.cols.length c, .slice B t.rows.length e]), .string col, (.agg #[.int .i64 v0.kind, .string v0.s, .int .i64 v0.dn, .int .i64 v0.ds, .int .i64 v0.n, .slice Av v0.cols.length cv, .slice Bv v0.rows.length ev])] w (RetVE w (Fresh w) d (whereS t col v0)) := by
  have H := Lib.hid (h.mono (T := fun b => b < w.heap.size) fun i hi _ => hi)
  have HV := Lib.hid (hv.mono (T := fun b => b < w.heap.size) fun i hi _ => hi)
  have hrl := h.rows_.len
  clear h hv
  obtain ⟨W0, hW0⟩ : ∃ W0, W0 = ((w.alloc (.cells #[.int .i64 t.kind, .string t.s, .int .i64 t.dn, .int .i64 t.ds, .int .i64 t.n, .slice A t.cols.length c, .slice B t.rows.length e] 33)).alloc (.cells #[.int .i64 v0.kind, .string v0.s, .int .i64 v0.dn, .int .i64 v0.ds, .int .i64 v0.n, .slice Av v0.cols.length cv, .slice Bv v0.rows.length ev] 33)).alloc (.cells #[.int .i64 0, .string ⟨#[]⟩, .int .i64 0, .int .i64 0, .int .i64 0, .slice none 0 0, .slice none 0 0] 33) := ⟨_, rfl⟩
  have HW0 := Lib.hid hW0
  have HX0 := Lib.hid (show Ext w W0 by rw [hW0]; exact (((Ext.refl w).alloc _).alloc _).alloc _)
  have HB0 := Lib.hid (show Blk W0 w.heap.size 33 #[.int .i64 t.kind, .string t.s, .int .i64 t.dn, .int .i64 t.ds, .int .i64 t.n, .slice A t.cols.length c, .slice B t.rows.length e] by rw [hW0]; exact ((Blk.new _ _ _).keep (Kept.alloc _ _ _)).keep (Kept.alloc _ _ _))
  have HB1 := Lib.hid (show Blk W0 (w.heap.size + 1) 33 #[.int .i64 v0.kind, .string v0.s, .int .i64 v0.dn, .int .i64 v0.ds, .int .i64 v0.n, .slice Av v0.cols.length cv, .slice Bv v0.rows.length ev] by
    rw [hW0]
    have := (Blk.new (w.alloc (.cells #[.int .i64 t.kind, .string t.s, .int .i64 t.dn, .int .i64 t.ds, .int .i64 t.n, .slice A t.cols.length c, .slice B t.rows.length e] 33)) 33 #[.int .i64 v0.kind, .string v0.s, .int .i64 v0.dn, .int .i64 v0.ds, .int .i64 v0.n, .slice Av v0.cols.length cv, .slice Bv v0.rows.length ev]).keep (Kept.alloc _ _ (.cells #[.int .i64 0, .string ⟨#[]⟩, .int .i64 0, .int .i64 0, .int .i64 0, .slice none 0 0, .slice none 0 0] 33))
    simpa using this)
  have HB2 := Lib.hid (show Blk W0 (w.heap.size + 1 + 1) 33 #[.int .i64 0, .string ⟨#[]⟩, .int .i64 0, .int .i64 0, .int .i64 0, .slice none 0 0, .slice none 0 0] by
    rw [hW0]
    have := Blk.new ((w.alloc (.cells #[.int .i64 t.kind, .string t.s, .int .i64 t.dn, .int .i64 t.ds, .int .i64 t.n, .slice A t.cols.length c, .slice B t.rows.length e] 33)).alloc (.cells #[.int .i64 v0.kind, .string v0.s, .int .i64 v0.dn, .int .i64 v0.ds, .int .i64 v0.n, .slice Av v0.cols.length cv, .slice Bv v0.rows.length ev] 33)) 33 #[.int .i64 0, .string ⟨#[]⟩, .int .i64 0, .int .i64 0, .int .i64 0, .slice none 0 0, .slice none 0 0]
    simpa using this)
  have HS0 := Lib.hid (show W0.heap.size = w.heap.size + 3 by rw [hW0]; simp)
  clear hW0
  go_enter Tryz.func31, Tryz.ntmps31
  go_wp2_with fail
  rw [← HW0.out]
  refine (r09_IsTable d t A B c e W0 _ (H.out.keep (HX0.out.kept _))).mono ?_
  rintro e1 w1 ⟨rfl, hx1⟩
  have HX1 := Lib.hid (HX0.out.trans hx1)
  have HB01 := Lib.hid (HB0.out.keep (hx1.kept _))
  have HB11 := Lib.hid (HB1.out.keep (hx1.kept _))
  have HB21 := Lib.hid (HB2.out.keep (hx1.kept _))
  have hz1 : w.heap.size + 3 ≤ w1.heap.size := by have := hx1.size; have := HS0.out; omega
  clear hx1 HB0 HB1 HB2 HW0 HX0 HS0
  cases hT : isTabB t
  · have HF := Lib.hid (show whereS t col v0 = (Val.zero, 14) by simp [whereS, hT])
    clear hT
    have r0 := HB21.out.cell (i := 0) rfl
    have r1 := HB21.out.cell (i := 1) rfl
    have r2 := HB21.out.cell (i := 2) rfl
    have r3 := HB21.out.cell (i := 3) rfl
    have r4 := HB21.out.cell (i := 4) rfl
    have r5 := HB21.out.cell (i := 5) rfl
    have r6 := HB21.out.cell (i := 6) rfl
    have rf := HB21.out.frozen
    have rz := HB21.out.lt
    go_wp2
    rw [HF.out]
    refine bodyPost_ret (v := .tuple #[(.agg #[.int .i64 Val.zero.kind, .string Val.zero.s, .int .i64 Val.zero.dn, .int .i64 Val.zero.ds, .int .i64 Val.zero.n, .slice none Val.zero.cols.length 0, .slice none Val.zero.rows.length 0]), .int .i64 14]) (by simp [results, Tryz.results31, go_sem, r0, r1, r2, r3, r4, r5, r6, Val.zero]) rfl ⟨none, 0, none, 0, rfl, ⟨Nat.le_refl _, Nat.le_refl _⟩, RV.zero, ?_⟩
    iterate 7 with_reducible refine Ext.set2 ?_ (by omega) _
    with_reducible exact HX1.out
  have HT := Lib.hid hT
  clear hT
  have k5 := HB01.out.cell (i := 5) rfl
  have kz := HB01.out.lt
  go_wp2_with fail
  refine (r09_index A c t.cols col _ _ (H.out.strs.keep (HX1.out.kept _))).mono ?_
  rintro e2 w2 ⟨rfl, rfl⟩
  by_cases hneg : idxS t.cols col < 0
  · have HF := Lib.hid (show whereS t col v0 = (Val.zero, 13) by simp [whereS, HT.out, hneg])
    have r0 := HB21.out.cell (i := 0) rfl
    have r1 := HB21.out.cell (i := 1) rfl
    have r2 := HB21.out.cell (i := 2) rfl
    have r3 := HB21.out.cell (i := 3) rfl
    have r4 := HB21.out.cell (i := 4) rfl
    have r5 := HB21.out.cell (i := 5) rfl
    have r6 := HB21.out.cell (i := 6) rfl
    have rf := HB21.out.frozen
    have rz := HB21.out.lt
    go_wp2
    rw [HF.out]
    refine bodyPost_ret (v := .tuple #[(.agg #[.int .i64 Val.zero.kind, .string Val.zero.s, .int .i64 Val.zero.dn, .int .i64 Val.zero.ds, .int .i64 Val.zero.n, .slice none Val.zero.cols.length 0, .slice none Val.zero.rows.length 0]), .int .i64 13]) (by simp [results, Tryz.results31, go_sem, r0, r1, r2, r3, r4, r5, r6, Val.zero]) rfl ⟨none, 0, none, 0, rfl, ⟨Nat.le_refl _, Nat.le_refl _⟩, RV.zero, ?_⟩
    iterate 7 with_reducible refine Ext.set2 ?_ (by omega) _
    with_reducible exact HX1.out
  obtain ⟨m, hm, hmc, -⟩ := idxS_at (show 0 ≤ idxS t.cols col by omega)
  have HF := Lib.hid (show whereS t col v0 = (tabV t.cols (whereRows m v0 t.rows), 0) by
    unfold whereS
    rw [HT.out, if_neg (by simp), if_neg hneg, hm]
    rfl)
  rw [hm]
  clear hneg hm
  obtain ⟨w5, hw5⟩ : ∃ w5, w5 = w1.alloc (.cells #[.int .i64 5, .string ⟨#[]⟩, .int .i64 0, .int .i64 0, .int .i64 0, .slice A t.cols.length c, .slice none 0 0] 33) := ⟨_, rfl⟩
  have hx15 : Ext w1 w5 := by rw [hw5]; exact (Ext.refl _).alloc _
  obtain ⟨go, hgo⟩ : ∃ go, go = w1.heap.size := ⟨_, rfl⟩
  have HM0 := Lib.hid (show OutT w w5 (go + 1) (fun b => b < w.heap.size ∨ w.heap.size + 3 ≤ b) d go A c t.cols none 0 (whereRows m v0 (t.rows.take 0)) w5 from ⟨HX1.out.trans hx15, Kept.refl _ _, ⟨by omega, by omega, by rw [hw5, hgo]; simp⟩, by rw [hw5, hgo]; exact Blk.new _ _ _, (H.out.strs.mono (T := fun b => ob none ≠ some b ∧ (b < w.heap.size ∨ w.heap.size + 3 ≤ b) ∧ b ≠ go) fun b hb hb' => ⟨by simp [ob], .inl hb', by omega⟩).keep ((HX1.out.trans hx15).kept _), OwnRs.nil _ _ _ _⟩)
  have HB0 := Lib.hid (HB01.out.keep (hx15.kept _))
  have HB1 := Lib.hid (HB11.out.keep (hx15.kept _))
  have HB2 := Lib.hid (HB21.out.keep (hx15.kept _))
  have HX5 := Lib.hid (HX1.out.trans hx15)
  have HW5 := Lib.hid hw5
  have HGO := Lib.hid hgo
  have hgz : w.heap.size + 3 ≤ go := by omega
  clear hx15 HB01 HB11 HB21 hw5 hgo
  go_wp2
  rw [← HW5.out, ← HGO.out]
  clear HW5 HGO k5 kz
  go_loopw [11] (fun i wr => ∃ (k : Nat) (Ar : Option Addr) (cr : Nat), k ≤ t.rows.length ∧ i = .int .i64 k ∧ OutT w w5 (go + 1) (fun b => b < w.heap.size ∨ w.heap.size + 3 ≤ b) d go A c t.cols Ar cr (whereRows m v0 (t.rows.take k)) wr) (fun i _ => t.rows.length - (intOf i).toNat)
  case atStart => exact ⟨0, none, 0, Nat.zero_le _, rfl, HM0.out⟩
  case round =>
    clear HM0
    obtain ⟨k, Ar, cr, hk, rfl, hm0⟩ := hrel
    have HM1 := Lib.hid hm0
    have HKP := Lib.hid (hm0.kept.mono (T := fun b => b < w.heap.size + 3) fun b _ hb => ⟨by omega, by omega⟩)
    have k6 := (HB0.out.keep (HKP.out.mono fun b _ e => by omega)).cell (i := 6) rfl
    have kz := (HB0.out.keep (HKP.out.mono fun b _ e => by omega)).lt
    clear hm0
    by_cases hlt : k < t.rows.length
    · obtain ⟨b, o, C, ec, hB, hb, hc0, hcp, hrow⟩ := H.out.rows_.at_ hlt
      obtain ⟨r, hr⟩ : ∃ r, r = t.rows[k] := ⟨_, rfl⟩
      have hrlen : r.length = t.cols.length := by rw [hr]; exact isTab_row HT.out hlt
      rw [← hr] at hc0 hcp hrow
      have hmr : m < r.length := by omega
      have HRLEN := Lib.hid hrlen
      clear hrlen
      obtain ⟨b2, o2, Ay, cy, By, ey, hC, hb2, ⟨y0, y1, y2, y3, y4, y5, y6⟩, -, hyv⟩ := hrow.at_ hmr
      obtain ⟨y, hy⟩ : ∃ y, y = r[m] := ⟨_, rfl⟩
      rw [← hy] at y0 y1 y2 y3 y4 y5 y6 hyv
      have hwx : Ext w wr := HM1.out.ext
      subst hB
      have Z0 := Lib.hid (hwx.cell hc0)
      have K6 := Lib.hid k6
      have Y0 := Lib.hid (hwx.cell y0)
      have Y1 := Lib.hid (hwx.cell y1)
      have Y2 := Lib.hid (hwx.cell y2)
      have Y3 := Lib.hid (hwx.cell y3)
      have Y4 := Lib.hid (hwx.cell y4)
      have Y5 := Lib.hid (hwx.cell y5)
      have Y6 := Lib.hid (hwx.cell y6)
      have HYV := Lib.hid ((hyv.up (d' := d) (by omega)).keep (hwx.kept _))
      have HVV := Lib.hid (HV.out.keep (hwx.kept _))
      have HROW := Lib.hid hrow
      have HCE := Lib.hid hC
      have HEC := Lib.hid hcp
      have HGV := Lib.hid (HB1.out.keep (HKP.out.mono fun b _ e => by omega))
      obtain ⟨fb, hfb⟩ : ∃ fb, fb = isB y v0 := ⟨_, rfl⟩
      have HFB := Lib.hid hfb
      have HYE := Lib.hid (show t.rows[k].getD m Val.zero = y by rw [hy, ← hr, List.getD_eq_getElem?_getD, List.getElem?_eq_getElem hmr]; rfl)
      have HRE := Lib.hid hr
      have HC5 := Lib.hid (HX5.out.cell hc0)
      have HB5 := Lib.hid (show b < w5.heap.size from Nat.lt_of_lt_of_le hb HX5.out.size)
      have i2 : m < r.length := hmr
      clear y0 y1 y2 y3 y4 y5 y6 hyv hrow hC hfb hwx hc0 hr hy hmr
      go_upto_region 11 with fail
      refine wp_region_lin_lit (by kernel_rfl) (fun i => [i]) (by kernel_rfl) LR LR.refl LR.trans (LN (al0)) (gW11 w t e b o k v0 Av cv Bv ev C r.length ec m b2 o2 y Ay cy By ey fb) (gW11_st _ _ _ _ _ _ _ _ _ _ _ _ _ _ _ _ _ _ _ _ _ _ _) gh0 (LN.zero _) ⟨?_, ?_, ?_, ?_, ?_, ?_, ?_, ?_, ?_, ?_, ?_, trivial⟩ ?_
      · refine LinStep.yes fun vals γ w' ρ hR hN hp hρ hc hf hg => ⟨rfl, ?_⟩
        have e3 : ρ (.tmp 3) = .pointer (some ⟨w.heap.size, 0, none⟩) := hρ 3
        have hx := hR.drew_ext
        have HR := Lib.hid hR
        have HN := Lib.hid hN
        clear hR hN hp hρ hx
        go_light
        go_simp
        exact ⟨γ, LR.refl _ _, fun _ _ _ h => h, rfl⟩
      · refine LinStep.yes fun vals γ w' ρ hR hN hp hρ hc hf hg => ⟨rfl, ?_⟩
        have e35 : ρ (.tmp 35) = .pointer (some ⟨w.heap.size, 6, none⟩) := (hρ 35).trans (hp 0 (by decide))
        have hx := hR.drew_ext
        have c6 := hx.cell K6.out
        have HR := Lib.hid hR
        have HN := Lib.hid hN
        clear hR hN hp hρ hx
        go_light
        go_simp
        exact ⟨γ, LR.refl _ _, fun _ _ _ h => h, rfl⟩
      · refine LinStep.yes fun vals γ w' ρ hR hN hp hρ hc hf hg => ⟨rfl, ?_⟩
        have e11 : ρ (.tmp 11) = .int .i64 (k : Int) := hρ 11
        have hx := hR.drew_ext
        have HR := Lib.hid hR
        have HN := Lib.hid hN
        clear hR hN hp hρ hx
        go_light
        go_simp
        exact ⟨γ, LR.refl _ _, fun _ _ _ h => h, rfl⟩
      · refine LinStep.yes fun vals γ w' ρ hR hN hp hρ hc hf hg => ⟨rfl, ?_⟩
        have e36 : ρ (.tmp 36) = .slice (some ⟨b, o, none⟩) t.rows.length e := (hρ 36).trans (hp 1 (by decide))
        have e37 : ρ (.tmp 37) = .int .i64 (k : Int) := (hρ 37).trans (hp 2 (by decide))
        have hx := hR.drew_ext
        have i0 : (0 : Int) ≤ (k : Int) := by omega
        have i1 : (k : Int) < (t.rows.length : Int) := by omega
        have HR := Lib.hid hR
        have HN := Lib.hid hN
        clear hR hN hp hρ hx
        go_light
        go_simp
        exact ⟨γ, LR.refl _ _, fun _ _ _ h => h, rfl⟩
      · refine LinStep.yes fun vals γ w' ρ hR hN hp hρ hc hf hg => ⟨rfl, ?_⟩
        have e38 : ρ (.tmp 38) = .pointer (some ⟨b, o + k, none⟩) := (hρ 38).trans (hp 3 (by decide))
        have hx := hR.drew_ext
        have z0 := hx.cell Z0.out
        have HR := Lib.hid hR
        have HN := Lib.hid hN
        clear hR hN hp hρ hx
        go_light
        go_simp
        exact ⟨γ, LR.refl _ _, fun _ _ _ h => h, rfl⟩
      · refine LinStep.yes fun vals γ w' ρ hR hN hp hρ hc hf hg => ⟨rfl, ?_⟩
        have e9 : ρ (.tmp 9) = .int .i64 (m : Int) := hρ 9
        have hx := hR.drew_ext
        have HR := Lib.hid hR
        have HN := Lib.hid hN
        clear hR hN hp hρ hx
        go_light
        go_simp
        exact ⟨γ, LR.refl _ _, fun _ _ _ h => h, rfl⟩
      · refine LinStep.yes fun vals γ w' ρ hR hN hp hρ hc hf hg => ⟨rfl, ?_⟩
        have e39 : ρ (.tmp 39) = .slice C r.length ec := (hρ 39).trans (hp 4 (by decide))
        have e40 : ρ (.tmp 40) = .int .i64 (m : Int) := (hρ 40).trans (hp 5 (by decide))
        have hx := hR.drew_ext
        have i0 : (0 : Int) ≤ (m : Int) := by omega
        have i1 : (m : Int) < (r.length : Int) := by omega
        rw [HCE.out] at e39
        have HR := Lib.hid hR
        have HN := Lib.hid hN
        clear hR hN hp hρ hx
        go_light
        go_simp
        exact ⟨γ, LR.refl _ _, fun _ _ _ h => h, rfl⟩
      · refine LinStep.yes fun vals γ w' ρ hR hN hp hρ hc hf hg => ⟨rfl, ?_⟩
        have e41 : ρ (.tmp 41) = .pointer (some ⟨b2, o2 + m * 7, none⟩) := (hρ 41).trans (hp 6 (by decide))
        have hx := hR.drew_ext
        have y0 := hx.cell Y0.out
        have y1 := hx.cell Y1.out
        have y2 := hx.cell Y2.out
        have y3 := hx.cell Y3.out
        have y4 := hx.cell Y4.out
        have y5 := hx.cell Y5.out
        have y6 := hx.cell Y6.out
        have HR := Lib.hid hR
        have HN := Lib.hid hN
        clear hR hN hp hρ hx
        go_light
        go_simp
        exact ⟨γ, LR.refl _ _, fun _ _ _ h => h, rfl⟩
      · refine LinStep.yes fun vals γ w' ρ hR hN hp hρ hc hf hg => ⟨rfl, ?_⟩
        have e5 : ρ (.tmp 5) = .pointer (some ⟨w.heap.size + 1, 0, none⟩) := hρ 5
        have hx := hR.drew_ext
        have c0 := (HGV.out.keep (hx.kept _)).cell (i := 0) rfl
        have c1 := (HGV.out.keep (hx.kept _)).cell (i := 1) rfl
        have c2 := (HGV.out.keep (hx.kept _)).cell (i := 2) rfl
        have c3 := (HGV.out.keep (hx.kept _)).cell (i := 3) rfl
        have c4 := (HGV.out.keep (hx.kept _)).cell (i := 4) rfl
        have c5 := (HGV.out.keep (hx.kept _)).cell (i := 5) rfl
        have c6 := (HGV.out.keep (hx.kept _)).cell (i := 6) rfl
        have HR := Lib.hid hR
        have HN := Lib.hid hN
        clear hR hN hp hρ hx
        go_light
        go_simp
        exact ⟨γ, LR.refl _ _, fun _ _ _ h => h, rfl⟩
      · refine LinStep.yes fun vals γ w' ρ hR hN hp hρ hc hf hg => ⟨rfl, ?_⟩
        have e42 : ρ (.tmp 42) = (.agg #[.int .i64 y.kind, .string y.s, .int .i64 y.dn, .int .i64 y.ds, .int .i64 y.n, .slice Ay y.cols.length cy, .slice By y.rows.length ey]) := (hρ 42).trans (hp 7 (by decide))
        have e43 : ρ (.tmp 43) = (.agg #[.int .i64 v0.kind, .string v0.s, .int .i64 v0.dn, .int .i64 v0.ds, .int .i64 v0.n, .slice Av v0.cols.length cv, .slice Bv v0.rows.length ev]) := (hρ 43).trans (hp 8 (by decide))
        have hx := hR.drew_ext
        have HR := Lib.hid hR
        have HN := Lib.hid hN
        clear hR hN hp hρ hx
        go_light
        go_simp
        refine (r09_is d y v0 Ay By Av Bv cy ey cv ev w' _ _ (HYV.out.keep (HR.out.drew_ext.kept _)) (HVV.out.keep (HR.out.drew_ext.kept _))).mono ?_
        rintro e' w3 ⟨he, hx⟩
        rw [← HFB.out] at he
        exact ⟨_, he, γ, LR.of_ext γ hx, fun _ _ _ h => h, rfl⟩
      · refine LinStep.yes fun vals γ w' ρ hR hN hp hρ hc hf hg => ⟨rfl, ?_⟩
        have e44 : ρ (.tmp 44) = .bool fb := (hρ 44).trans (hp 9 (by decide))
        have hx := hR.drew_ext
        have HR := Lib.hid hR
        have HN := Lib.hid hN
        clear hR hN hp hρ hx
        go_light
        go_simp
        exact ⟨γ, LR.refl _ _, fun _ _ _ h => h, rfl⟩
      · intro vals γ w6 hR hG
        have h10 : vals 10 = .bool fb := hG 10 (by decide)
        have hx6 := hR.drew_ext
        have HM6 := Lib.hid (HM1.out.more hx6)
        clear hR hG
        simp only [lexFrame, Act.put, List.setIfInBounds_toArray, List.set_cons_succ, List.set_cons_zero, Nat.zero_add, Nat.reduceAdd, h10]
        generalize vals 0 = u0, vals 1 = u1, vals 2 = u2, vals 3 = u3, vals 4 = u4, vals 5 = u5, vals 6 = u6, vals 7 = u7, vals 8 = u8, vals 9 = u9
        clear h10 hx6 HM1 k6 kz K6 Z0
        cases fb
        · go_wp2
          go_roundw
          case rel => exact ⟨k + 1, Ar, cr, by omega, by go_num, by rw [whereRows_snoc m v0 t.rows hlt, HYE.out, ← HFB.out, if_neg (by simp), List.append_nil]; exact HM6.out⟩
          case measure => simp [intOf]; omega
        · obtain ⟨rows, hrows⟩ : ∃ rows, rows = whereRows m v0 (t.rows.take k) := ⟨_, rfl⟩
          rw [← hrows] at HM6
          have HROWS := Lib.hid hrows
          have hrwl : rows.length ≤ 4294967296 := by rw [hrows]; have := whereRows_len m v0 t.rows k; omega
          have HM := HM6
          obtain ⟨X, hX⟩ : ∃ X : Nat → Prop, X = fun b => b < w.heap.size ∨ w.heap.size + 3 ≤ b := ⟨_, rfl⟩
          rw [← hX] at HM HM6
          obtain ⟨w0, hw0⟩ : ∃ w0, w0 = w5 := ⟨_, rfl⟩
          rw [← hw0] at HM HM6
          obtain ⟨lo, hlo⟩ : ∃ lo, lo = go + 1 := ⟨_, rfl⟩
          rw [← hlo] at HM HM6
          obtain ⟨cols, hcols⟩ : ∃ cols, cols = t.cols := ⟨_, rfl⟩
          rw [← hcols] at HM HM6
          obtain ⟨Ac, hAc⟩ : ∃ Ac, Ac = A := ⟨_, rfl⟩
          rw [← hAc] at HM HM6
          obtain ⟨cc, hccE⟩ : ∃ cc, cc = c := ⟨_, rfl⟩
          rw [← hccE] at HM HM6
          obtain ⟨n, hn⟩ : ∃ n, n = t.rows.length := ⟨_, rfl⟩
          have HBX := Lib.hid (show ∀ w', Kept (fun b => b < lo ∧ b ≠ go) w0 w' → w'.cell? ⟨w.heap.size, 6, none⟩ = some (.slice (some ⟨b, o, none⟩) n e) from fun w' hk => by
            rw [hw0] at hk
            rw [hlo] at hk
            rw [hn]
            exact (HB0.out.keep (hk.mono fun b _ e => ⟨by omega, by omega⟩)).cell (i := 6) rfl)
          have HCD := Lib.hid (show ∀ w', Kept (fun b => b < lo ∧ b ≠ go) w0 w' → w'.cell? ⟨b, o + k, none⟩ = some (.slice C r.length ec) from fun w' hk => by
            rw [hw0] at hk
            rw [hlo] at hk
            exact (World.cell?_of_block (w := w5) (hk.2 b ⟨by omega, by omega⟩ HB5.out)).trans HC5.out)
          have HRW := Lib.hid (show ∀ w', OutT w w0 lo X d go Ac cc cols Ar cr rows w' → Row w' (fun b => ob Ar ≠ some b ∧ X b ∧ b ≠ go) d C r from fun w' h => (HROW.out.keep (h.ext.kept _)).mono fun b _ hb => ⟨fun e => by have h1 := (h.rows.blk e).1; have h2 := h.golo; omega, by rw [hX]; exact .inl hb, by have h2 := h.golo; omega⟩)
          have hkn : k < n := by omega
          have HE1 := Lib.hid hX
          have HE2 := Lib.hid hw0
          have HE3 := Lib.hid hlo
          have HE4 := Lib.hid hcols
          have HE5 := Lib.hid hAc
          have HE6 := Lib.hid hccE
          clear hX hw0 hlo hcols hrows hAc hccE hn
          obtain ⟨B, hBE⟩ : ∃ B : Option Addr, B = none := ⟨_, rfl⟩
          clear hBE
          go_upto_region 13 with fail
          refine wp_region_lin_lit (by kernel_rfl) dWhB (by kernel_rfl) (SR (WhBInv w w0 lo X d go Ac cc cols Ar cr rows r C ec k B n e b o)) (SR.refl _) (SR.trans _) (SN stWhB) (gWhB w w0 lo X d go Ac cc cols Ar cr rows r C ec k B n e b o) (gWhB_st _ _ _ _ _ _ _ _ _ _ _ _ _ _ _ _ _ _ _ _ _) 0 (SN.zero (by decide)) ⟨?_, ?_, ?_, ?_, ?_, ?_, ?_, ?_, ?_, ?_, ?_, trivial⟩ ?_
          · refine LinStep.yes fun vals γ w' ρ hR hN hp hρ hc hf hg => ⟨rfl, ?_⟩
            have hi := hR.inv ⟨by omega, fun _ => HM.out.more (Ext.refl _).drew, fun _ => (HM.out.more (Ext.refl _).drew).kept⟩
            have e10 : ρ (.tmp 10) = .pointer (some ⟨go, 0, none⟩) := hρ 10
            clear hR hN hp hρ hi
            go_light
            go_simp
            exact ⟨γ, SR.refl _ _ _, fun _ _ _ h => h, rfl⟩
          · refine LinStep.yes fun vals γ w' ρ hR hN hp hρ hc hf hg => ⟨rfl, ?_⟩
            have hi := hR.inv ⟨by omega, fun _ => HM.out.more (Ext.refl _).drew, fun _ => (HM.out.more (Ext.refl _).drew).kept⟩
            have e46 : ρ (.tmp 46) = _ := (hρ 46).trans (hp 0 (by decide))
            have hb := (hi.2.1 (by have h : γ < 2 := hN; omega)).out
            have k1 := hb.cell (i := 6) rfl
            clear hR hN hp hρ hi hb
            go_light
            go_simp
            exact ⟨γ, SR.refl _ _ _, fun _ _ _ h => h, rfl⟩
          · refine LinStep.yes fun vals γ w' ρ hR hN hp hρ hc hf hg => ⟨rfl, ?_⟩
            have hi := hR.inv ⟨by omega, fun _ => HM.out.more (Ext.refl _).drew, fun _ => (HM.out.more (Ext.refl _).drew).kept⟩
            have e3 : ρ (.tmp 3) = .pointer (some ⟨w.heap.size, 0, none⟩) := hρ 3
            clear hR hN hp hρ hi
            go_light
            go_simp
            exact ⟨γ, SR.refl _ _ _, fun _ _ _ h => h, rfl⟩
          · refine LinStep.yes fun vals γ w' ρ hR hN hp hρ hc hf hg => ⟨rfl, ?_⟩
            have hi := hR.inv ⟨by omega, fun _ => HM.out.more (Ext.refl _).drew, fun _ => (HM.out.more (Ext.refl _).drew).kept⟩
            have e48 : ρ (.tmp 48) = _ := (hρ 48).trans (hp 2 (by decide))
            have k1 := (HBX.out _ (hi.2.2 (by have h : γ < 3 := hN; omega)))
            clear hR hN hp hρ hi
            go_light
            go_simp
            exact ⟨γ, SR.refl _ _ _, fun _ _ _ h => h, rfl⟩
          · refine LinStep.yes fun vals γ w' ρ hR hN hp hρ hc hf hg => ⟨rfl, ?_⟩
            have hi := hR.inv ⟨by omega, fun _ => HM.out.more (Ext.refl _).drew, fun _ => (HM.out.more (Ext.refl _).drew).kept⟩
            have e11 : ρ (.tmp 11) = .int .i64 (k : Int) := hρ 11
            clear hR hN hp hρ hi
            go_light
            go_simp
            exact ⟨γ, SR.refl _ _ _, fun _ _ _ h => h, rfl⟩
          · refine LinStep.yes fun vals γ w' ρ hR hN hp hρ hc hf hg => ⟨rfl, ?_⟩
            have hi := hR.inv ⟨by omega, fun _ => HM.out.more (Ext.refl _).drew, fun _ => (HM.out.more (Ext.refl _).drew).kept⟩
            have e49 : ρ (.tmp 49) = _ := (hρ 49).trans (hp 3 (by decide))
            have e50 : ρ (.tmp 50) = _ := (hρ 50).trans (hp 4 (by decide))
            have i0 : (0 : Int) ≤ (k : Int) := by omega
            have i1 : (k : Int) < (n : Int) := by omega
            clear hR hN hp hρ hi
            go_light
            go_simp
            exact ⟨γ, SR.refl _ _ _, fun _ _ _ h => h, rfl⟩
          · refine LinStep.yes fun vals γ w' ρ hR hN hp hρ hc hf hg => ⟨rfl, ?_⟩
            have hi := hR.inv ⟨by omega, fun _ => HM.out.more (Ext.refl _).drew, fun _ => (HM.out.more (Ext.refl _).drew).kept⟩
            have e51 : ρ (.tmp 51) = _ := (hρ 51).trans (hp 5 (by decide))
            have k1 := (HCD.out _ (hi.2.2 (by have h : γ < 3 := hN; omega)))
            clear hR hN hp hρ hi
            go_light
            go_simp
            exact ⟨γ, SR.refl _ _ _, fun _ _ _ h => h, rfl⟩
          · refine LinStep.yes fun vals γ w' ρ hR hN hp hρ hc hf hg => ⟨rfl, ?_⟩
            have hi := hR.inv ⟨by omega, fun _ => HM.out.more (Ext.refl _).drew, fun _ => (HM.out.more (Ext.refl _).drew).kept⟩
            have e52 : ρ (.tmp 52) = _ := (hρ 52).trans (hp 6 (by decide))
            have h0 : γ = 0 := by have h : γ < 1 := hN; omega
            subst h0
            have HI := Lib.hid (hi.2.1 (by omega))
            clear hR hN hp hρ hi
            go_light
            go_simp
            have hx1 : Ext w' (w'.alloc (.cells #[.slice C r.length ec] 45)) := (Ext.refl _).alloc _
            exact ⟨1, SR.up (by omega) ⟨by omega, fun _ => HI.out.more hx1, fun _ => (HI.out.more hx1).kept⟩, SN.up (by omega) (by decide) rfl, _, C, ec, rfl, by omega, fun _ => ⟨Blk.new _ _ _, HRW.out _ (HI.out.more hx1), HEC.out⟩⟩
          · refine LinStep.yes fun vals γ w' ρ hR hN hp hρ hc hf hg => ⟨rfl, ?_⟩
            have hi := hR.inv ⟨by omega, fun _ => HM.out.more (Ext.refl _).drew, fun _ => (HM.out.more (Ext.refl _).drew).kept⟩
            obtain ⟨g', A3, c3, g4, hr2, hbk⟩ := hp 7 (by decide)
            have e53 : ρ (.tmp 53) = _ := (hρ 53).trans g4
            have e47 : ρ (.tmp 47) = _ := (hρ 47).trans (hp 1 (by decide))
            have h0 : γ = 1 := by have h : γ < 2 := hN; omega
            subst h0
            obtain ⟨hbk1, hbk2, hbk3⟩ := hbk rfl
            have hot := hi.2.1 (by omega)
            obtain ⟨hs, ho1, hv1⟩ := hot.rows
            refine lin_app (.tmp 47) (.tmp 53) rfl tiR e47 ho1 e53 hbk1.rd rfl (by simp [Value.oneCell']) (by omega) (by decide) hot.golo.2.2 ?_
            intro A4 c4 w4 hown4 hg4 hat4
            have hota := hot.app ho1 hv1 hbk3 hbk2 hown4 hg4 hat4
            exact ⟨2, SR.up (by omega) ⟨by omega, fun h => absurd h (by omega), fun _ => hota.kept⟩, SN.up (by omega) (by decide) rfl, A4, c4, rfl, by omega, fun _ => hota⟩
          · refine LinStep.yes fun vals γ w' ρ hR hN hp hρ hc hf hg => ⟨rfl, ?_⟩
            have hi := hR.inv ⟨by omega, fun _ => HM.out.more (Ext.refl _).drew, fun _ => (HM.out.more (Ext.refl _).drew).kept⟩
            have e10 : ρ (.tmp 10) = .pointer (some ⟨go, 0, none⟩) := hρ 10
            clear hR hN hp hρ hi
            go_light
            go_simp
            exact ⟨γ, SR.refl _ _ _, fun _ _ _ h => h, rfl⟩
          · refine LinStep.yes fun vals γ w' ρ hR hN hp hρ hc hf hg => ⟨rfl, ?_⟩
            have hi := hR.inv ⟨by omega, fun _ => HM.out.more (Ext.refl _).drew, fun _ => (HM.out.more (Ext.refl _).drew).kept⟩
            obtain ⟨A4, c4, g7, hr3, hda⟩ := hp 8 (by decide)
            have e54 : ρ (.tmp 54) = _ := (hρ 54).trans g7
            have e55 : ρ (.tmp 55) = _ := (hρ 55).trans (hp 9 (by decide))
            have h0 : γ = 2 := by have h : γ < 3 := hN; omega
            subst h0
            have HA := Lib.hid (hda rfl)
            obtain ⟨y, hy⟩ := (hda rfl).out
            have k0 := hy.cell (i := 6) rfl
            have kf := hy.frozen
            have kz := hy.lt
            clear hR hN hp hρ hi g7 hda hy
            go_light
            go_simp
            have hs := HA.out.store
            rw [List.length_append, List.length_singleton] at hs
            exact ⟨3, SR.up (by omega) ⟨by omega, fun h => absurd h (by omega), fun h => absurd h (by omega)⟩, SN.up (by omega) (by decide) rfl, by omega, fun _ => ⟨A4, c4, hs⟩⟩
          · intro vals γ w7 hR hG
            have hi := hR.inv ⟨by omega, fun _ => HM.out.more (Ext.refl _).drew, fun _ => (HM.out.more (Ext.refl _).drew).kept⟩
            obtain ⟨h4, h5⟩ := hG 10 (by decide)
            obtain ⟨A4, c4, hm1⟩ := h5 (by have := hi.1; omega)
            rw [HE1.out, HE2.out, HE3.out, HE4.out, HE5.out, HE6.out] at hm1
            have HM7 := Lib.hid hm1
            clear hR hG hi h4 h5 hm1 HM HM6
            simp only [lexFrame, Act.put, List.setIfInBounds_toArray, List.set_cons_succ, List.set_cons_zero, Nat.zero_add, Nat.reduceAdd]
            generalize vals 0 = u0, vals 1 = u1, vals 2 = u2, vals 3 = u3, vals 4 = u4, vals 5 = u5, vals 6 = u6, vals 7 = u7, vals 8 = u8, vals 9 = u9, vals 10 = u10
            go_wp2
            go_roundw
            case rel => exact ⟨k + 1, A4, c4, by omega, by go_num, by rw [whereRows_snoc m v0 t.rows hlt, HYE.out, ← HFB.out, if_pos rfl, ← HROWS.out, ← HRE.out]; exact HM7.out⟩
            case measure => simp [intOf]; omega
    · have hkr : k = t.rows.length := by omega
      subst hkr
      have hm := HM1.out
      rw [List.take_of_length_le (Nat.le_refl _)] at hm
      have hwl : (whereRows m v0 t.rows).length ≤ t.rows.length := List.length_filter_le _ _
      have HM := Lib.hid hm
      have t0 := hm.out.cell (i := 0) rfl
      have t1 := hm.out.cell (i := 1) rfl
      have t2 := hm.out.cell (i := 2) rfl
      have t3 := hm.out.cell (i := 3) rfl
      have t4 := hm.out.cell (i := 4) rfl
      have t5 := hm.out.cell (i := 5) rfl
      have t6 := hm.out.cell (i := 6) rfl
      have HRS0 := Lib.hid (HB2.out.keep (HKP.out.mono fun b _ e => by omega))
      clear hm HM1
      go_wp2_with fail
      have hcp := r06_CopyV d (tabV t.cols (whereRows m v0 t.rows)) A Ar c cr wr (fun _ => True) (HM.out.val (by omega) (fun b hb => trivial) (fun b hb => trivial))
      refine hcp.mono ?_
      rintro e9 w9 ⟨A9, c9, B9, e9', rfl, hcap9, hrv9, hx9⟩
      have HRS := Lib.hid (HRS0.out.keep (hx9.kept _))
      have HRV9 := Lib.hid hrv9
      have HX9 := Lib.hid (HM.out.ext.trans hx9)
      have hg9 : w.heap.size + 3 ≤ wr.heap.size := by have := HM.out.golo; omega
      have r0 := HRS.out.cell (i := 0) rfl
      have r1 := HRS.out.cell (i := 1) rfl
      have r2 := HRS.out.cell (i := 2) rfl
      have r3 := HRS.out.cell (i := 3) rfl
      have r4 := HRS.out.cell (i := 4) rfl
      have r5 := HRS.out.cell (i := 5) rfl
      have r6 := HRS.out.cell (i := 6) rfl
      have rf := HRS.out.frozen
      have rz := HRS.out.lt
      clear hrv9 hx9 hcp t0 t1 t2 t3 t4 t5 t6 k6 kz
      go_wp2
      rw [HF.out]
      refine bodyPost_ret (v := .tuple #[.agg #[.int .i64 5, .string ⟨#[]⟩, .int .i64 0, .int .i64 0, .int .i64 0, .slice A9 t.cols.length c9, .slice B9 (whereRows m v0 t.rows).length e9'], .int .i64 0]) (by simp [results, Tryz.results31, go_sem, r0, r1, r2, r3, r4, r5, r6, tabV]) rfl ⟨A9, c9, B9, e9', rfl, hcap9, ?_, ?_⟩
      · refine (RV.keep HRV9.out ?_).mono fun b _ hb => by unfold Fresh at hb ⊢; omega
        iterate 7 with_reducible refine Kept.set2 ?_ (fun h => by unfold Fresh at h; omega)
        with_reducible exact Kept.refl _ _
      · iterate 7 with_reducible refine Ext.set2 ?_ (by omega) _
        with_reducible exact HX9.out
end Go.Proofs.YtcmmkeiiapbgcaaGreatDoor
