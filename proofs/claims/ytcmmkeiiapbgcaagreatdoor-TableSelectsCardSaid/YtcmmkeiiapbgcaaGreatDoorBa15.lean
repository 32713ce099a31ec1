/- Selecting: table.copied, the reference's IsTable, and a table that a call puts together. Conditions: the arguments read as data. -/
import Derived.Test.YtcmmkeiiapbgcaaGreatDoorBa14
namespace Go.Proofs.YtcmmkeiiapbgcaaGreatDoor
open Go Go.RowKit

set_option maxRecDepth 100000 in
set_option maxHeartbeats 1000000 in
theorem table_copied (q : Nat) (l : List Val) (A : Option Addr) (c : Nat) (w : World) (S : Nat → Prop) (h : Row w S q A l) : Calls Tryz.prog 74 #[.slice A l.length c] w (RetRow w q l) := by
  have hlen := h.len
  have HROW := Lib.hid h
  clear h
  obtain ⟨cur2, hmk2, hcur2⟩ := run_mk0 tiV l.length (by omega) (by decide)
  have HST := Lib.hid (show OwnVs (w.alloc (.cells cur2 33)) w.heap.size (fun b => w.heap.size ≤ b) q (some ⟨w.heap.size, 0, none⟩) l.length (l.take 0) from ⟨[], Own.made w _ _ _ cur2 (by unfold maxLen; omega) hcur2, VL.nil _⟩)
  clear hcur2
  go_enter Tryz.func74, Tryz.ntmps74
  go_wp2
  clear hmk2
  go_loopw [11, 3] (fun i v wi => ∃ (j : Nat) (A' : Option Addr) (c' : Nat), j ≤ l.length ∧ i = .int .i64 j ∧ v = .slice A' j c' ∧ Ext w wi ∧ OwnVs wi w.heap.size (fun b => w.heap.size ≤ b) q A' c' (l.take j)) (fun i _ _ => l.length - (intOf i).toNat)
  case atStart => exact ⟨0, _, _, Nat.zero_le _, rfl, rfl, (Ext.refl w).alloc _, HST.out⟩
  case round =>
    obtain ⟨j, A', c', hj, rfl, rfl, hbi, hoi⟩ := hrel
    have HBI := Lib.hid hbi
    have HOI := Lib.hid hoi
    have hszi := hbi.size
    by_cases hlt2 : j < l.length
    · obtain ⟨b2, o2, A5, c5, B5, e5, rfl, z2, ⟨p0, p1, p2, p3, p4, p5, p6⟩, ⟨hq, _, _⟩, hv⟩ := (HROW.out.keep (hbi.kept _)).at_ hlt2
      have HV := Lib.hid hv
      clear hv hbi hoi
      go_wp2_with fail
      refine (value_Copy (q - 1) _ _ _ _ _ _ S (HV.out.keep (Kept.alloc _ _ _))).mono ?_
      rintro e3 w3 ⟨A3, c3, B3, e3, rfl, hcc3, hv3, hx3⟩
      have HX3 := Lib.hid (((Ext.refl wr).alloc _).trans hx3)
      have hz3 : wr.heap.size < w3.heap.size := by have := hx3.size; simp at this; omega
      have hv3' := hv3.mono (T := fun b => wr.heap.size ≤ b) (fun i _ hi => by unfold Fresh at hi; simp at hi; omega)
      obtain ⟨xs, hown, hvl⟩ := HOI.out.ext (HX3.out.alloc (.cells (vcells l[j] A3 c3 B3 e3).toArray 33))
      have hlj : (l.take j).length = j := by rw [List.length_take]; omega
      have HVL := Lib.hid hvl
      rw [hlj] at hown
      have HOWN := Lib.hid hown
      have HLJ := Lib.hid hlj
      have HV3 := Lib.hid hv3'
      clear hvl hown hv3 hv3' hx3 hlj
      go_wp2_with (at_builtin; go_must (refine wpList_app rfl (.tmp 15) (.tmp 18) rfl tiV rfl HOWN.out rfl (Blk.rd (Blk.new _ _ _)) rfl vcells_one (by omega) (by decide) (by simp; omega) ?_); intro A4 c4 w4 hown4 hg4 hat4)
      go_roundw
      case rel =>
        refine ⟨j + 1, A4, c4, by omega, by go_num, rfl, ?_, ?_⟩
        · exact ((HBI.out.trans HX3.out).alloc _).grown hg4 (fun k hk => (HOWN.out.blk hk).1)
        · rw [List.take_succ_eq_append_getElem hlt2]
          refine OwnVs.push HVL.out (by rw [HLJ.out]; exact hown4) hg4 hat4 ⟨hq, hcc3⟩ ((HV3.out.keep (Kept.alloc _ _ _)).mono fun i _ hi => ⟨fun h0 => ?_, by omega⟩)
          have := (HOI.out.blk h0).2
          omega
      case measure => simp [intOf]; omega
    · have hjr : j = l.length := by omega
      subst hjr
      have HR := Lib.hid (show OwnVs wr w.heap.size (fun b => w.heap.size ≤ b) q A' c' l by have := HOI.out; rwa [List.take_of_length_le (Nat.le_refl _)] at this)
      clear hbi hoi
      go_wp2
      go_ret
      exact ⟨A', c', rfl, HR.out, HBI.out⟩

def isTabB (x : Val) : Bool := decide (x.kind = 5) && rightB x
set_option maxRecDepth 100000 in
theorem r09_IsTable (q : Nat) (x : Val) (A B : Option Addr) (c e : Nat) (w : World) (S : Nat → Prop) (h : RV w S q x A B) : Calls Tryz.prog 59 #[(.agg #[.int .i64 x.kind, .string x.s, .int .i64 x.dn, .int .i64 x.ds, .int .i64 x.n, .slice A x.cols.length c, .slice B x.rows.length e])] w (RetB w (isTabB x)) := by
  have H := Lib.hid h
  clear h
  cases hr : rightB x
  · have HF := Lib.hid (show isTabB x = false by simp [isTabB, hr])
    have HR := Lib.hid hr
    clear hr
    go_enter Tryz.func59, Tryz.ntmps59
    go_wp2_with fail
    refine (r06_Right q x A B c e _ S (H.out.keep (Kept.alloc _ _ _))).mono ?_
    rintro e1 w1 ⟨rfl, hx1⟩
    rw [HR.out]
    have HX1 := Lib.hid (((Ext.refl w).alloc _).trans hx1)
    clear hx1
    go_wp2
    go_ret
    exact ⟨by rw [HF.out]; rfl, HX1.out⟩
  · have HF := Lib.hid (show isTabB x = (x.kind == 5) by simp [isTabB, hr]; rfl)
    have HR := Lib.hid hr
    clear hr
    go_enter Tryz.func59, Tryz.ntmps59
    go_wp2_with fail
    refine (r06_Right q x A B c e _ S (H.out.keep (Kept.alloc _ _ _))).mono ?_
    rintro e1 w1 ⟨rfl, hx1⟩
    rw [HR.out]
    have HX1 := Lib.hid (((Ext.refl w).alloc _).trans hx1)
    have k0 := ((Blk.new w 33 #[.int .i64 x.kind, .string x.s, .int .i64 x.dn, .int .i64 x.ds, .int .i64 x.n, .slice A x.cols.length c, .slice B x.rows.length e]).keep (hx1.kept _)).cell (i := 0) rfl
    have kz := ((Blk.new w 33 #[.int .i64 x.kind, .string x.s, .int .i64 x.dn, .int .i64 x.ds, .int .i64 x.n, .slice A x.cols.length c, .slice B x.rows.length e]).keep (hx1.kept _)).lt
    clear hx1
    go_wp2
    go_ret
    exact ⟨by rw [HF.out]; rfl, HX1.out⟩

/-- A table that is put together in the variable go: its columns, and rows of the call's own; what was below lo, but for the variable, is as it was in w0. -/
structure OutT (w w0 : World) (lo : Nat) (X : Nat → Prop) (d go : Nat) (Ac : Option Addr) (cc : Nat) (cols : List ByteArray) (Ar : Option Addr) (cr : Nat) (rows : List (List Val)) (wr : World) : Prop where
  ext : Ext w wr
  kept : Kept (fun b => b < lo ∧ b ≠ go) w0 wr
  golo : w.heap.size ≤ go ∧ go < lo ∧ lo ≤ wr.heap.size
  out : Blk wr go 33 #[.int .i64 5, .string ⟨#[]⟩, .int .i64 0, .int .i64 0, .int .i64 0, .slice Ac cols.length cc, .slice Ar rows.length cr]
  cols : Strs wr (fun b => ob Ar ≠ some b ∧ X b ∧ b ≠ go) Ac cols
  rows : OwnRs wr lo (fun b => X b ∧ b ≠ go) d Ar cr rows
/-- Behind the append to the rows, ahead of the store. -/
structure OutTA (w w0 : World) (lo : Nat) (X : Nat → Prop) (d go : Nat) (Ac : Option Addr) (cc : Nat) (cols : List ByteArray) (Ar : Option Addr) (cr : Nat) (rows : List (List Val)) (wr : World) : Prop where
  ext : Ext w wr
  kept : Kept (fun b => b < lo ∧ b ≠ go) w0 wr
  golo : w.heap.size ≤ go ∧ go < lo ∧ lo ≤ wr.heap.size
  out : ∃ y, Blk wr go 33 #[.int .i64 5, .string ⟨#[]⟩, .int .i64 0, .int .i64 0, .int .i64 0, .slice Ac cols.length cc, y]
  cols : Strs wr (fun b => ob Ar ≠ some b ∧ X b ∧ b ≠ go) Ac cols
  rows : OwnRs wr lo (fun b => X b ∧ b ≠ go) d Ar cr rows
section
variable {w w0 wr wr' : World} {lo d go cc cr : Nat} {X : Nat → Prop} {Ac Ar : Option Addr} {cols : List ByteArray} {rows : List (List Val)}
theorem OutT.more (h : OutT w w0 lo X d go Ac cc cols Ar cr rows wr) (hx : Ext wr wr') : OutT w w0 lo X d go Ac cc cols Ar cr rows wr' :=
  ⟨h.ext.trans hx, h.kept.trans (hx.kept _), ⟨h.golo.1, h.golo.2.1, Nat.le_trans h.golo.2.2 hx.size⟩, h.out.keep (hx.kept _), h.cols.keep (hx.kept _), h.rows.ext hx⟩
/-- A row, readable apart from the rows' own memory, is put to the end. -/
theorem OutT.app (h : OutT w w0 lo X d go Ac cc cols Ar cr rows wr) {A4 B : Option Addr} {c4 e : Nat} {r : List Val} {hs : List Value} (ho : Own wr lo 45 1 Ar rows.length cr hs)
    (hv : ∀ (i : Nat) (r : List Val), rows[i]? = some r → ∃ (B : Option Addr) (e : Nat), hs[i]? = some (Value.slice B r.length e) ∧ r.length ≤ e ∧ Row wr (fun b => ob Ar ≠ some b ∧ X b ∧ b ≠ go) d B r)
    (hre : r.length ≤ e) (hr : Row wr (fun b => ob Ar ≠ some b ∧ X b ∧ b ≠ go) d B r) (hown : Own wr' lo 45 1 A4 (rows.length + 1) c4 (hs ++ [Value.slice B r.length e])) (hg : wr.grownBy wr' (ob Ar)) (hat : ob A4 = ob Ar ∨ ob A4 = some wr.heap.size) :
    OutTA w w0 lo X d go Ac cc cols A4 c4 (rows ++ [r]) wr' := by
  have hlow : ∀ b, ob Ar = some b → lo ≤ b := fun b hb => (ho.blk hb).1
  have hgo := h.golo
  have hk : ∀ S : Nat → Prop, (∀ b, S b → ob Ar ≠ some b) → Kept S wr wr' := fun S hS => Kept.of_grown hg fun b hb _ e => hS b hb e.symm
  refine ⟨h.ext.grown hg fun b hb => by have := hlow b hb; omega, h.kept.trans (hk _ fun b hb e => by have := hlow b e; omega), ⟨hgo.1, hgo.2.1, Nat.le_trans hgo.2.2 hg.size⟩, ⟨_, h.out.keep (hk _ fun b hb e => by have := hlow b e; omega)⟩, ?_, OwnRs.push (by simpa using ho.len) hv hown hg hat hre hr⟩
  have hc := h.cols.mono (T := fun b => (ob Ar ≠ some b) ∧ (ob A4 ≠ some b ∧ X b ∧ b ≠ go)) fun i hi hh => ⟨hh.1, fun e => by
    rcases hat with e' | e' <;> rw [e'] at e
    · exact hh.1 e
    · injection e with e; omega, hh.2⟩
  exact (hc.keep (hk _ fun b hb => hb.1)).mono fun b _ hb => hb.2
theorem OutTA.store (h : OutTA w w0 lo X d go Ac cc cols Ar cr rows wr) : OutT w w0 lo X d go Ac cc cols Ar cr rows (wr.setCell ⟨go, 6, none⟩ (.slice Ar rows.length cr)) := by
  obtain ⟨y, hy⟩ := h.out
  have ho := (Only.refl go wr).set 6 (.slice Ar rows.length cr)
  have hgo := h.golo
  refine ⟨h.ext.only ho hgo.1, h.kept.trans (ho.kept fun b _ hb => hb.2), by simpa [World.setCell] using hgo, hy.set 6 _, h.cols.keep (ho.kept fun b _ hb => hb.2.2), h.rows.keep (ho.kept fun b _ hb => ?_)⟩
  rcases hb with hb | hb
  · have := (h.rows.blk hb).1; omega
  · exact hb.2
theorem OutT.val (h : OutT w w0 lo X d go Ac cc cols Ar cr rows wr) {T : Nat → Prop} (hl : rows.length ≤ 4294967296) (h1 : ∀ b, lo ≤ b → T b) (h2 : ∀ b, X b → T b) : RV wr T d (tabV cols rows) Ac Ar :=
  RV.mk (Nat.zero_le _) (h.cols.mono fun b _ hb => h2 b hb.2.1) (h.rows.rows hl (fun b hb => h1 b (h.rows.blk hb).1) fun b hb => h2 b hb.1)
end
def whereRows (c : Nat) (v : Val) (rows : List (List Val)) : List (List Val) := rows.filter fun r => isB (r.getD c Val.zero) v
def whereS (t : Val) (col : ByteArray) (v : Val) : Val × Int :=
  if isTabB t = false then (Val.zero, 14) else if idxS t.cols col < 0 then (Val.zero, 13) else (tabV t.cols (whereRows (idxS t.cols col).toNat v t.rows), 0)
end Go.Proofs.YtcmmkeiiapbgcaaGreatDoor
/- The program's table.Where. Conditions: the arguments read as data. -/
namespace Go.Proofs.YtcmmkeiiapbgcaaGreatDoor
open Go Go.RowKit
theorem whereRows_snoc (c : Nat) (v : Val) (rows : List (List Val)) {k : Nat} (hk : k < rows.length) : whereRows c v (rows.take (k + 1)) = whereRows c v (rows.take k) ++ (if isB (rows[k].getD c Val.zero) v = true then [rows[k]] else []) := by
  unfold whereRows
  rw [List.take_succ_eq_append_getElem hk, List.filter_append]
  congr 1
  rw [List.filter_cons]
  rfl
theorem whereRows_len (c : Nat) (v : Val) (rows : List (List Val)) (k : Nat) : (whereRows c v (rows.take k)).length ≤ k := Nat.le_trans (List.length_filter_le _ _) (List.length_take_le _ _)
theorem isTab_row {t : Val} (h : isTabB t = true) {i : Nat} (hi : i < t.rows.length) : t.rows[i].length = t.cols.length := by
  simp only [isTabB, Bool.and_eq_true, decide_eq_true_eq] at h
  have h2 := h.2
  unfold rightB at h2
  rw [if_pos h.1, Bool.and_eq_true] at h2
  exact tableR_row h2.1 hi
def WhAInv (w w0 : World) (lo : Nat) (X : Nat → Prop) (d go : Nat) (Ac : Option Addr) (cc : Nat) (cols : List ByteArray) (Ar : Option Addr) (cr : Nat) (rows : List (List Val)) (_r : List Val) (_C : Option Addr) (_ec : Nat) (γ : Nat) (w' : World) : Prop := γ ≤ 4 ∧ (γ ≤ 2 → OutT w w0 lo X d go Ac cc cols Ar cr rows w') ∧ (γ ≤ 3 → Kept (fun b => b < lo ∧ b ≠ go) w0 w')
def gWhA (w w0 : World) (lo : Nat) (X : Nat → Prop) (d go : Nat) (Ac : Option Addr) (cc : Nat) (cols : List ByteArray) (Ar : Option Addr) (cr : Nat) (rows : List (List Val)) (r : List Val) (C : Option Addr) (ec : Nat) : Nat → List Value → Nat → World → Prop
  | 0, [v], _, _ => v = .pointer (some ⟨go, 6, none⟩)
  | 1, [v], _, _ => v = .slice Ar rows.length cr
  | 2, [v], _, _ => v = .slice C r.length ec
  | 3, [v], γ, w' => ∃ (A3 : Option Addr) (c3 : Nat), v = .slice A3 r.length c3 ∧ 1 ≤ γ ∧ (γ = 1 → Row w' (fun b => ob Ar ≠ some b ∧ X b ∧ b ≠ go) d A3 r ∧ r.length ≤ c3)
  | 4, [v], γ, w' => ∃ (g : Nat) (A3 : Option Addr) (c3 : Nat), v = .slice (some ⟨g, 0, none⟩) 1 1 ∧ 2 ≤ γ ∧ (γ = 2 → Blk w' g 45 #[.slice A3 r.length c3] ∧ Row w' (fun b => ob Ar ≠ some b ∧ X b ∧ b ≠ go) d A3 r ∧ r.length ≤ c3)
  | 5, [v], γ, w' => ∃ (A4 : Option Addr) (c4 : Nat), v = .slice A4 (rows.length + 1) c4 ∧ 3 ≤ γ ∧ (γ = 3 → OutTA w w0 lo X d go Ac cc cols A4 c4 (rows ++ [r]) w')
  | 6, [v], _, _ => v = .pointer (some ⟨go, 6, none⟩)
  | 7, [_], γ, w' => 4 ≤ γ ∧ (γ = 4 → ∃ (A4 : Option Addr) (c4 : Nat), OutT w w0 lo X d go Ac cc cols A4 c4 (rows ++ [r]) w')
  | _, _, _, _ => True
theorem gWhA_st (w w0 : World) (lo : Nat) (X : Nat → Prop) (d go : Nat) (Ac : Option Addr) (cc : Nat) (cols : List ByteArray) (Ar : Option Addr) (cr : Nat) (rows : List (List Val)) (r : List Val) (C : Option Addr) (ec : Nat) : ∀ i l' γ v γ' v', SR (WhAInv w w0 lo X d go Ac cc cols Ar cr rows r C ec) γ v γ' v' → gWhA w w0 lo X d go Ac cc cols Ar cr rows r C ec i l' γ v → gWhA w w0 lo X d go Ac cc cols Ar cr rows r C ec i l' γ' v' := by
  intro i l' γ v γ' v' r h
  have hle := r.le
  unfold gWhA at h ⊢
  split at h
  all_goals first
    | exact h
    | (obtain ⟨h1, h2⟩ := h; exact ⟨h1, by omega⟩)
    | (obtain ⟨h1, h3, h4⟩ := h; exact ⟨h1, by omega, fun e => by rw [r.eq (by omega)]; exact h4 (by omega)⟩)
    | (obtain ⟨x0, h1, h3, h4⟩ := h; exact ⟨x0, h1, by omega, fun e => by rw [r.eq (by omega)]; exact h4 (by omega)⟩)
    | (obtain ⟨x0, x1, h1, h3, h4⟩ := h; exact ⟨x0, x1, h1, by omega, fun e => by rw [r.eq (by omega)]; exact h4 (by omega)⟩)
    | (obtain ⟨x0, x1, x2, h1, h3, h4⟩ := h; exact ⟨x0, x1, x2, h1, by omega, fun e => by rw [r.eq (by omega)]; exact h4 (by omega)⟩)
    | (obtain ⟨x0, x1, x2, x3, h1, h3, h4⟩ := h; exact ⟨x0, x1, x2, x3, h1, by omega, fun e => by rw [r.eq (by omega)]; exact h4 (by omega)⟩)
    | (obtain ⟨x0, x1, x2, x3, x4, h1, h3, h4⟩ := h; exact ⟨x0, x1, x2, x3, x4, h1, by omega, fun e => by rw [r.eq (by omega)]; exact h4 (by omega)⟩)
    | (obtain ⟨h3, h4⟩ := h; exact ⟨by omega, fun e => by rw [r.eq (by omega)]; exact h4 (by omega)⟩)
def dWhA : Nat → List Nat := fun i => [i]
def stWhA : List Nat := [100, 3, 100, 1, 2, 3, 100, 4]
def vW10 (_gv : Nat) (v0 : Val) (Av : Option Addr) (cv : Nat) (Bv : Option Addr) (ev : Nat) (C : Option Addr) (n : Nat) (ec : Nat) (m : Nat) (b2 : Nat) (o2 : Nat) (y : Val) (Ay : Option Addr) (cy : Nat) (By : Option Addr) (ey : Nat) (fb : Bool) : Nat → Value
  | 0 => .slice C n ec
  | 1 => .int .i64 (m : Int)
  | 2 => .pointer (some ⟨b2, o2 + m * 7, none⟩)
  | 3 => (.agg #[.int .i64 y.kind, .string y.s, .int .i64 y.dn, .int .i64 y.ds, .int .i64 y.n, .slice Ay y.cols.length cy, .slice By y.rows.length ey])
  | 4 => (.agg #[.int .i64 v0.kind, .string v0.s, .int .i64 v0.dn, .int .i64 v0.ds, .int .i64 v0.n, .slice Av v0.cols.length cv, .slice Bv v0.rows.length ev])
  | 5 => .bool fb
  | _ => undef
def gW10 (gv : Nat) (v0 : Val) (Av : Option Addr) (cv : Nat) (Bv : Option Addr) (ev : Nat) (C : Option Addr) (n : Nat) (ec : Nat) (m : Nat) (b2 : Nat) (o2 : Nat) (y : Val) (Ay : Option Addr) (cy : Nat) (By : Option Addr) (ey : Nat) (fb : Bool) (ix : Nat) (vl : List Value) (_γ : Gh) (_w' : World) : Prop := match vl with
  | [v] => v = vW10 gv v0 Av cv Bv ev C n ec m b2 o2 y Ay cy By ey fb ix
  | _ => True
theorem gW10_st (gv : Nat) (v0 : Val) (Av : Option Addr) (cv : Nat) (Bv : Option Addr) (ev : Nat) (C : Option Addr) (n : Nat) (ec : Nat) (m : Nat) (b2 : Nat) (o2 : Nat) (y : Val) (Ay : Option Addr) (cy : Nat) (By : Option Addr) (ey : Nat) (fb : Bool) : ∀ ix vl γ w γ' w', LR γ w γ' w' → gW10 gv v0 Av cv Bv ev C n ec m b2 o2 y Ay cy By ey fb ix vl γ w → gW10 gv v0 Av cv Bv ev C n ec m b2 o2 y Ay cy By ey fb ix vl γ' w' := by
  intro ix vl γ w γ' w' r h
  match vl, h with
  | [v], h =>
    unfold gW10 at h ⊢
    exact h
  | [], _ => trivial
  | _ :: _ :: _, _ => trivial

set_option maxRecDepth 100000 in
set_option maxHeartbeats 4000000 in
theorem table_Where (d : Nat) (t : Val) (col : ByteArray) (v0 : Val) (A B Av Bv : Option Addr) (c e cv ev : Nat) (w : World) (S T : Nat → Prop) (h : RV w S d t A B) (hcap : t.cols.length ≤ c) (hv : RV w T d v0 Av Bv) :
    Calls Tryz.prog 30 #[(.agg #[.int .i64 t.kind, .string t.s, .int .i64 t.dn, .int .i64 t.ds, .int .i64 t.n, .slice A t.cols.length c, .slice B t.rows.length e]), .string col, (.agg #[.int .i64 v0.kind, .string v0.s, .int .i64 v0.dn, .int .i64 v0.ds, .int .i64 v0.n, .slice Av v0.cols.length cv, .slice Bv v0.rows.length ev])] w (RetVE w (Fresh w) d (whereS t col v0)) := by
  have H := Lib.hid (h.mono (T := fun b => b < w.heap.size) fun i hi _ => hi)
  have HV := Lib.hid (hv.mono (T := fun b => b < w.heap.size) fun i hi _ => hi)
  have hrl := h.rows_.len
  clear h hv
  obtain ⟨W0, hW0⟩ : ∃ W0, W0 = ((w.alloc (.cells #[.int .i64 t.kind, .string t.s, .int .i64 t.dn, .int .i64 t.ds, .int .i64 t.n, .slice A t.cols.length c, .slice B t.rows.length e] 33)).alloc (.cells #[.int .i64 v0.kind, .string v0.s, .int .i64 v0.dn, .int .i64 v0.ds, .int .i64 v0.n, .slice Av v0.cols.length cv, .slice Bv v0.rows.length ev] 33)).alloc (.cells #[.int .i64 0, .string ⟨#[]⟩, .int .i64 0, .int .i64 0, .int .i64 0, .slice none 0 0, .slice none 0 0] 33) := ⟨_, rfl⟩
  have HW0 := Lib.hid hW0
  have HX0 := Lib.hid (show Ext w W0 by rw [hW0]; exact (((Ext.refl w).alloc _).alloc _).alloc _)
  have HB0 := Lib.hid (show Blk W0 w.heap.size 33 #[.int .i64 t.kind, .string t.s, .int .i64 t.dn, .int .i64 t.ds, .int .i64 t.n, .slice A t.cols.length c, .slice B t.rows.length e] by rw [hW0]; exact ((Blk.new _ _ _).keep (Kept.alloc _ _ _)).keep (Kept.alloc _ _ _))
  have HB1 := Lib.hid (show Blk W0 (w.heap.size + 1) 33 #[.int .i64 v0.kind, .string v0.s, .int .i64 v0.dn, .int .i64 v0.ds, .int .i64 v0.n, .slice Av v0.cols.length cv, .slice Bv v0.rows.length ev] by
    rw [hW0]
    have := (Blk.new (w.alloc (.cells #[.int .i64 t.kind, .string t.s, .int .i64 t.dn, .int .i64 t.ds, .int .i64 t.n, .slice A t.cols.length c, .slice B t.rows.length e] 33)) 33 #[.int .i64 v0.kind, .string v0.s, .int .i64 v0.dn, .int .i64 v0.ds, .int .i64 v0.n, .slice Av v0.cols.length cv, .slice Bv v0.rows.length ev]).keep (Kept.alloc _ _ (.cells #[.int .i64 0, .string ⟨#[]⟩, .int .i64 0, .int .i64 0, .int .i64 0, .slice none 0 0, .slice none 0 0] 33))
    simpa using this)
  have HB2 := Lib.hid (show Blk W0 (w.heap.size + 1 + 1) 33 #[.int .i64 0, .string ⟨#[]⟩, .int .i64 0, .int .i64 0, .int .i64 0, .slice none 0 0, .slice none 0 0] by
    rw [hW0]
    have := Blk.new ((w.alloc (.cells #[.int .i64 t.kind, .string t.s, .int .i64 t.dn, .int .i64 t.ds, .int .i64 t.n, .slice A t.cols.length c, .slice B t.rows.length e] 33)).alloc (.cells #[.int .i64 v0.kind, .string v0.s, .int .i64 v0.dn, .int .i64 v0.ds, .int .i64 v0.n, .slice Av v0.cols.length cv, .slice Bv v0.rows.length ev] 33)) 33 #[.int .i64 0, .string ⟨#[]⟩, .int .i64 0, .int .i64 0, .int .i64 0, .slice none 0 0, .slice none 0 0]
    simpa using this)
  have HS0 := Lib.hid (show W0.heap.size = w.heap.size + 3 by rw [hW0]; simp)
  clear hW0
  go_enter Tryz.func30, Tryz.ntmps30
  go_wp2_with fail
  rw [← HW0.out]
  refine (table_isTable d t A B c e W0 _ (H.out.keep (HX0.out.kept _)) hcap).mono ?_
  rintro e1 w1 ⟨rfl, hx1⟩
  have HX1 := Lib.hid (HX0.out.trans hx1)
  have HB01 := Lib.hid (HB0.out.keep (hx1.kept _))
  have HB11 := Lib.hid (HB1.out.keep (hx1.kept _))
  have HB21 := Lib.hid (HB2.out.keep (hx1.kept _))
  have hz1 : w.heap.size + 3 ≤ w1.heap.size := by have := hx1.size; have := HS0.out; omega
  clear hx1 HB0 HB1 HB2 HW0 HX0 HS0
  rw [show (decide (t.kind = 5) && rightB t) = isTabB t from rfl]
  cases hT : isTabB t
  · have HF := Lib.hid (show whereS t col v0 = (Val.zero, 14) by simp [whereS, hT])
    clear hT
    have r0 := HB21.out.cell (i := 0) rfl
    have r1 := HB21.out.cell (i := 1) rfl
    have r2 := HB21.out.cell (i := 2) rfl
    have r3 := HB21.out.cell (i := 3) rfl
    have r4 := HB21.out.cell (i := 4) rfl
    have r5 := HB21.out.cell (i := 5) rfl
    have r6 := HB21.out.cell (i := 6) rfl
    have rf := HB21.out.frozen
    have rz := HB21.out.lt
    go_wp2
    rw [HF.out]
    refine bodyPost_ret (v := .tuple #[(.agg #[.int .i64 Val.zero.kind, .string Val.zero.s, .int .i64 Val.zero.dn, .int .i64 Val.zero.ds, .int .i64 Val.zero.n, .slice none Val.zero.cols.length 0, .slice none Val.zero.rows.length 0]), .int .i64 14]) (by simp [results, Tryz.results30, go_sem, r0, r1, r2, r3, r4, r5, r6, Val.zero]) rfl ⟨none, 0, none, 0, rfl, ⟨Nat.le_refl _, Nat.le_refl _⟩, RV.zero, ?_⟩
    iterate 7 with_reducible refine Ext.set2 ?_ (by omega) _
    with_reducible exact HX1.out
  have HT := Lib.hid hT
  clear hT
  have k5 := HB01.out.cell (i := 5) rfl
  have k6 := HB01.out.cell (i := 6) rfl
  have kz := HB01.out.lt
  go_wp2_with fail
  refine (slices_Index A c t.cols col _ _ (H.out.strs.keep (HX1.out.kept _))).mono ?_
  rintro e2 w2 ⟨rfl, rfl⟩
  by_cases hneg : idxS t.cols col < 0
  · have HF := Lib.hid (show whereS t col v0 = (Val.zero, 13) by simp [whereS, HT.out, hneg])
    have r0 := HB21.out.cell (i := 0) rfl
    have r1 := HB21.out.cell (i := 1) rfl
    have r2 := HB21.out.cell (i := 2) rfl
    have r3 := HB21.out.cell (i := 3) rfl
    have r4 := HB21.out.cell (i := 4) rfl
    have r5 := HB21.out.cell (i := 5) rfl
    have r6 := HB21.out.cell (i := 6) rfl
    have rf := HB21.out.frozen
    have rz := HB21.out.lt
    go_wp2
    rw [HF.out]
    refine bodyPost_ret (v := .tuple #[(.agg #[.int .i64 Val.zero.kind, .string Val.zero.s, .int .i64 Val.zero.dn, .int .i64 Val.zero.ds, .int .i64 Val.zero.n, .slice none Val.zero.cols.length 0, .slice none Val.zero.rows.length 0]), .int .i64 13]) (by simp [results, Tryz.results30, go_sem, r0, r1, r2, r3, r4, r5, r6, Val.zero]) rfl ⟨none, 0, none, 0, rfl, ⟨Nat.le_refl _, Nat.le_refl _⟩, RV.zero, ?_⟩
    iterate 7 with_reducible refine Ext.set2 ?_ (by omega) _
    with_reducible exact HX1.out
  obtain ⟨m, hm, hmc, -⟩ := idxS_at (show 0 ≤ idxS t.cols col by omega)
  have HF := Lib.hid (show whereS t col v0 = (tabV t.cols (whereRows m v0 t.rows), 0) by
    unfold whereS
    rw [HT.out, if_neg (by simp), if_neg hneg, hm]
    rfl)
  rw [hm]
  clear hneg hm
  go_wp2_with fail
  refine (slices_Clone A c t.cols _ _ (H.out.strs.keep (HX1.out.kept _))).mono ?_
  rintro e3 w3 ⟨Ac, cc, rfl, hcc, hst, hx3⟩
  have HX3 := Lib.hid (HX1.out.trans hx3)
  have HB03 := Lib.hid (HB01.out.keep (hx3.kept _))
  have HB13 := Lib.hid (HB11.out.keep (hx3.kept _))
  have HB23 := Lib.hid (HB21.out.keep (hx3.kept _))
  have hz3 : w.heap.size + 3 ≤ w3.heap.size := Nat.le_trans hz1 hx3.size
  obtain ⟨w5, hw5⟩ : ∃ w5, w5 = w3.alloc (.cells #[.int .i64 5, .string ⟨#[]⟩, .int .i64 0, .int .i64 0, .int .i64 0, .slice Ac t.cols.length cc, .slice none 0 0] 33) := ⟨_, rfl⟩
  have hx35 : Ext w3 w5 := by rw [hw5]; exact (Ext.refl _).alloc _
  obtain ⟨go, hgo⟩ : ∃ go, go = w3.heap.size := ⟨_, rfl⟩
  have HM0 := Lib.hid (show OutT w w5 (go + 1) (fun b => w.heap.size + 3 ≤ b) d go Ac cc t.cols none 0 (whereRows m v0 (t.rows.take 0)) w5 from ⟨HX3.out.trans hx35, Kept.refl _ _, ⟨by omega, by omega, by rw [hw5, hgo]; simp⟩, by rw [hw5, hgo]; exact Blk.new _ _ _, ((hst.mono (T := fun b => ob none ≠ some b ∧ w.heap.size + 3 ≤ b ∧ b ≠ go) fun b hb hb' => ⟨by simp [ob], by unfold Fresh at hb'; omega, by omega⟩).keep (hx35.kept _)), OwnRs.nil _ _ _ _⟩)
  have HCC := Lib.hid hcc
  have HB0 := Lib.hid (HB03.out.keep (hx35.kept _))
  have HB1 := Lib.hid (HB13.out.keep (hx35.kept _))
  have HB2 := Lib.hid (HB23.out.keep (hx35.kept _))
  have k6b := HB03.out.cell (i := 6) rfl
  have kzb := HB03.out.lt
  have HX5 := Lib.hid (HX3.out.trans hx35)
  have HW5 := Lib.hid hw5
  have HGO := Lib.hid hgo
  have hgz : w.heap.size + 3 ≤ go := by omega
  clear hst hx3 hx35 hcc HB01 HB11 HB21 HB03 HB13 HB23 k5 k6 kz hw5 hgo
  go_wp2
  rw [← HW5.out, ← HGO.out]
  clear HW5 HGO k6b kzb hz3
  go_loopw [30] (fun i wr => ∃ (k : Nat) (Ar : Option Addr) (cr : Nat), k ≤ t.rows.length ∧ i = .int .i64 k ∧ OutT w w5 (go + 1) (fun b => w.heap.size + 3 ≤ b) d go Ac cc t.cols Ar cr (whereRows m v0 (t.rows.take k)) wr) (fun i _ => t.rows.length - (intOf i).toNat)
  case atStart => exact ⟨0, none, 0, Nat.zero_le _, rfl, HM0.out⟩
  case round =>
    clear HM0
    obtain ⟨k, Ar, cr, hk, rfl, hm0⟩ := hrel
    have HM1 := Lib.hid hm0
    clear hm0
    by_cases hlt : k < t.rows.length
    · obtain ⟨b, o, C, ec, hB, hb, hc0, hcp, hrow⟩ := H.out.rows_.at_ hlt
      obtain ⟨r, hr⟩ : ∃ r, r = t.rows[k] := ⟨_, rfl⟩
      have hrlen : r.length = t.cols.length := by rw [hr]; exact isTab_row HT.out hlt
      rw [← hr] at hc0 hcp hrow
      have hmr : m < r.length := by omega
      have HRLEN := Lib.hid hrlen
      clear hrlen
      obtain ⟨b2, o2, Ay, cy, By, ey, hC, hb2, ⟨y0, y1, y2, y3, y4, y5, y6⟩, -, hyv⟩ := hrow.at_ hmr
      obtain ⟨y, hy⟩ : ∃ y, y = r[m] := ⟨_, rfl⟩
      rw [← hy] at y0 y1 y2 y3 y4 y5 y6 hyv
      have hwx : Ext w wr := HM1.out.ext
      have z0 := hwx.cell hc0
      have zz : b < wr.heap.size := Nat.lt_of_lt_of_le hb hwx.size
      have Y0 := Lib.hid (hwx.cell y0)
      have Y1 := Lib.hid (hwx.cell y1)
      have Y2 := Lib.hid (hwx.cell y2)
      have Y3 := Lib.hid (hwx.cell y3)
      have Y4 := Lib.hid (hwx.cell y4)
      have Y5 := Lib.hid (hwx.cell y5)
      have Y6 := Lib.hid (hwx.cell y6)
      have HYV := Lib.hid ((hyv.up (d' := d) (by omega)).keep (hwx.kept _))
      have HVV := Lib.hid (HV.out.keep (hwx.kept _))
      have HROW := Lib.hid hrow
      have HCE := Lib.hid hC
      have HEC := Lib.hid hcp
      have HKP := Lib.hid (HM1.out.kept.mono (T := fun b => b < w.heap.size + 3) fun b _ hb => ⟨by omega, by omega⟩)
      have HGV := Lib.hid (HB1.out.keep (HKP.out.mono fun b _ e => by omega))
      obtain ⟨fb, hfb⟩ : ∃ fb, fb = isB y v0 := ⟨_, rfl⟩
      have HFB := Lib.hid hfb
      have HYE := Lib.hid (show t.rows[k].getD m Val.zero = y by rw [hy, ← hr, List.getD_eq_getElem?_getD, List.getElem?_eq_getElem hmr]; rfl)
      have HRE := Lib.hid hr
      have i0 : (0 : Int) ≤ (k : Int) := by omega
      have i1 : (k : Int) < (t.rows.length : Int) := by omega
      have HRL := Lib.hid hrow.len
      have i2 : m < r.length := hmr
      subst hB
      clear y0 y1 y2 y3 y4 y5 y6 hyv hrow hC hfb hwx hc0 hr hy hmr
      go_upto_region 10 with fail
      refine wp_region_lin_lit (by kernel_rfl) (fun i => [i]) (by kernel_rfl) LR LR.refl LR.trans (LN (al0)) (gW10 (w.heap.size + 1) v0 Av cv Bv ev C r.length ec m b2 o2 y Ay cy By ey fb) (gW10_st _ _ _ _ _ _ _ _ _ _ _ _ _ _ _ _ _ _) gh0 (LN.zero _) ⟨?_, ?_, ?_, ?_, ?_, ?_, trivial⟩ ?_
      · refine LinStep.yes fun vals γ w' ρ hR hN hp hρ hc hf hg => ⟨rfl, ?_⟩
        have e11 : ρ (.tmp 11) = .slice C r.length ec := hρ 11
        have hx := hR.drew_ext
        have HR := Lib.hid hR
        have HN := Lib.hid hN
        clear hR hN hp hρ hx
        go_light
        go_simp
        exact ⟨γ, LR.refl _ _, fun _ _ _ h => h, rfl⟩
      · refine LinStep.yes fun vals γ w' ρ hR hN hp hρ hc hf hg => ⟨rfl, ?_⟩
        have e8 : ρ (.tmp 8) = .int .i64 (m : Int) := hρ 8
        have hx := hR.drew_ext
        have HR := Lib.hid hR
        have HN := Lib.hid hN
        clear hR hN hp hρ hx
        go_light
        go_simp
        exact ⟨γ, LR.refl _ _, fun _ _ _ h => h, rfl⟩
      · refine LinStep.yes fun vals γ w' ρ hR hN hp hρ hc hf hg => ⟨rfl, ?_⟩
        have e34 : ρ (.tmp 34) = .slice C r.length ec := (hρ 34).trans (hp 0 (by decide))
        have e35 : ρ (.tmp 35) = .int .i64 (m : Int) := (hρ 35).trans (hp 1 (by decide))
        have hx := hR.drew_ext
        have i0 : (0 : Int) ≤ (m : Int) := by omega
        have i1 : (m : Int) < (r.length : Int) := by omega
        rw [HCE.out] at e34
        have HR := Lib.hid hR
        have HN := Lib.hid hN
        clear hR hN hp hρ hx
        go_light
        go_simp
        exact ⟨γ, LR.refl _ _, fun _ _ _ h => h, rfl⟩
      · refine LinStep.yes fun vals γ w' ρ hR hN hp hρ hc hf hg => ⟨rfl, ?_⟩
        have e36 : ρ (.tmp 36) = .pointer (some ⟨b2, o2 + m * 7, none⟩) := (hρ 36).trans (hp 2 (by decide))
        have hx := hR.drew_ext
        have y0 := hx.cell Y0.out
        have y1 := hx.cell Y1.out
        have y2 := hx.cell Y2.out
        have y3 := hx.cell Y3.out
        have y4 := hx.cell Y4.out
        have y5 := hx.cell Y5.out
        have y6 := hx.cell Y6.out
        have HR := Lib.hid hR
        have HN := Lib.hid hN
        clear hR hN hp hρ hx
        go_light
        go_simp
        exact ⟨γ, LR.refl _ _, fun _ _ _ h => h, rfl⟩
      · refine LinStep.yes fun vals γ w' ρ hR hN hp hρ hc hf hg => ⟨rfl, ?_⟩
        have e5 : ρ (.tmp 5) = .pointer (some ⟨w.heap.size + 1, 0, none⟩) := hρ 5
        have hx := hR.drew_ext
        have c0 := (HGV.out.keep (hx.kept _)).cell (i := 0) rfl
        have c1 := (HGV.out.keep (hx.kept _)).cell (i := 1) rfl
        have c2 := (HGV.out.keep (hx.kept _)).cell (i := 2) rfl
        have c3 := (HGV.out.keep (hx.kept _)).cell (i := 3) rfl
        have c4 := (HGV.out.keep (hx.kept _)).cell (i := 4) rfl
        have c5 := (HGV.out.keep (hx.kept _)).cell (i := 5) rfl
        have c6 := (HGV.out.keep (hx.kept _)).cell (i := 6) rfl
        have HR := Lib.hid hR
        have HN := Lib.hid hN
        clear hR hN hp hρ hx
        go_light
        go_simp
        exact ⟨γ, LR.refl _ _, fun _ _ _ h => h, rfl⟩
      · refine LinStep.yes fun vals γ w' ρ hR hN hp hρ hc hf hg => ⟨rfl, ?_⟩
        have e37 : ρ (.tmp 37) = (.agg #[.int .i64 y.kind, .string y.s, .int .i64 y.dn, .int .i64 y.ds, .int .i64 y.n, .slice Ay y.cols.length cy, .slice By y.rows.length ey]) := (hρ 37).trans (hp 3 (by decide))
        have e38 : ρ (.tmp 38) = (.agg #[.int .i64 v0.kind, .string v0.s, .int .i64 v0.dn, .int .i64 v0.ds, .int .i64 v0.n, .slice Av v0.cols.length cv, .slice Bv v0.rows.length ev]) := (hρ 38).trans (hp 4 (by decide))
        have hx := hR.drew_ext
        have HR := Lib.hid hR
        have HN := Lib.hid hN
        clear hR hN hp hρ hx
        go_light
        go_simp
        refine (table_is d y v0 Ay By Av Bv cy ey cv ev w' _ _ (HYV.out.keep (HR.out.drew_ext.kept _)) (HVV.out.keep (HR.out.drew_ext.kept _))).mono ?_
        rintro e' w3 ⟨he, hx⟩
        rw [← HFB.out] at he
        exact ⟨_, he, γ, LR.of_ext γ hx, fun _ _ _ h => h, rfl⟩
      · intro vals γ w6 hR hG
        have h5 : vals 5 = .bool fb := hG 5 (by decide)
        have hx6 := hR.drew_ext
        have HM6 := Lib.hid (HM1.out.more hx6)
        clear hR hG
        simp only [lexFrame, Act.put, List.setIfInBounds_toArray, List.set_cons_succ, List.set_cons_zero, Nat.zero_add, Nat.reduceAdd, h5]
        generalize vals 0 = u0, vals 1 = u1, vals 2 = u2, vals 3 = u3, vals 4 = u4
        clear h5 hx6 z0 zz HM1
        cases fb
        · go_wp2
          go_roundw
          case rel => exact ⟨k + 1, Ar, cr, by omega, by go_num, by rw [whereRows_snoc m v0 t.rows hlt, HYE.out, ← HFB.out, if_neg (by simp), List.append_nil]; exact HM6.out⟩
          case measure => simp [intOf]; omega
        · obtain ⟨rows, hrows⟩ : ∃ rows, rows = whereRows m v0 (t.rows.take k) := ⟨_, rfl⟩
          rw [← hrows] at HM6
          have HROWS := Lib.hid hrows
          have hrwl : rows.length ≤ 4294967296 := by rw [hrows]; have := whereRows_len m v0 t.rows k; omega
          have HM := HM6
          have HXF := Lib.hid (show ∀ b, w.heap.size + 3 ≤ b → (fun b => w.heap.size + 3 ≤ b) b from fun b hb => hb)
          obtain ⟨X, hX⟩ : ∃ X : Nat → Prop, X = fun b => w.heap.size + 3 ≤ b := ⟨_, rfl⟩
          rw [← hX] at HM HM6 HXF
          obtain ⟨w0, hw0⟩ : ∃ w0, w0 = w5 := ⟨_, rfl⟩
          rw [← hw0] at HM HM6
          obtain ⟨lo, hlo⟩ : ∃ lo, lo = go + 1 := ⟨_, rfl⟩
          rw [← hlo] at HM HM6
          obtain ⟨cols, hcols⟩ : ∃ cols, cols = t.cols := ⟨_, rfl⟩
          rw [← hcols] at HM HM6
          have HE1 := Lib.hid hX
          have HE2 := Lib.hid hw0
          have HE3 := Lib.hid hlo
          have HE4 := Lib.hid hcols
          clear hX hw0 hlo hcols hrows
          have HROW0 := HROW
          have HROW := Lib.hid (show ∀ w', OutT w w0 lo X d go Ac cc cols Ar cr rows w' → Row w' (fun b => b < w.heap.size) d C r from fun w' h => HROW0.out.keep (h.ext.kept _))
          go_upto_region 11 with fail
          refine wp_region_lin_lit (by kernel_rfl) dWhA (by kernel_rfl) (SR (WhAInv w w0 lo X d go Ac cc cols Ar cr rows r C ec)) (SR.refl _) (SR.trans _) (SN stWhA) (gWhA w w0 lo X d go Ac cc cols Ar cr rows r C ec) (gWhA_st _ _ _ _ _ _ _ _ _ _ _ _ _ _ _) 0 (SN.zero (by decide)) ⟨?_, ?_, ?_, ?_, ?_, ?_, ?_, ?_, trivial⟩ ?_
          · refine LinStep.yes fun vals γ w' ρ hR hN hp hρ hc hf hg => ⟨rfl, ?_⟩
            have hi := hR.inv ⟨by omega, fun _ => HM.out.more (Ext.refl _).drew, fun _ => (HM.out.more (Ext.refl _).drew).kept⟩
            have e9 : ρ (.tmp 9) = .pointer (some ⟨go, 0, none⟩) := hρ 9
            clear hR hN hp hρ hi
            go_light
            go_simp
            exact ⟨γ, SR.refl _ _ _, fun _ _ _ h => h, rfl⟩
          · refine LinStep.yes fun vals γ w' ρ hR hN hp hρ hc hf hg => ⟨rfl, ?_⟩
            have hi := hR.inv ⟨by omega, fun _ => HM.out.more (Ext.refl _).drew, fun _ => (HM.out.more (Ext.refl _).drew).kept⟩
            have e40 : ρ (.tmp 40) = _ := (hρ 40).trans (hp 0 (by decide))
            have hb := (hi.2.1 (by have h : γ < 3 := hN; omega)).out
            have k1 := hb.cell (i := 6) rfl
            clear hR hN hp hρ hi hb
            go_light
            go_simp
            exact ⟨γ, SR.refl _ _ _, fun _ _ _ h => h, rfl⟩
          · refine LinStep.yes fun vals γ w' ρ hR hN hp hρ hc hf hg => ⟨rfl, ?_⟩
            have hi := hR.inv ⟨by omega, fun _ => HM.out.more (Ext.refl _).drew, fun _ => (HM.out.more (Ext.refl _).drew).kept⟩
            have e11 : ρ (.tmp 11) = .slice C r.length ec := hρ 11
            clear hR hN hp hρ hi
            go_light
            go_simp
            exact ⟨γ, SR.refl _ _ _, fun _ _ _ h => h, rfl⟩
          · refine LinStep.yes fun vals γ w' ρ hR hN hp hρ hc hf hg => ⟨rfl, ?_⟩
            have hi := hR.inv ⟨by omega, fun _ => HM.out.more (Ext.refl _).drew, fun _ => (HM.out.more (Ext.refl _).drew).kept⟩
            have e42 : ρ (.tmp 42) = _ := (hρ 42).trans (hp 2 (by decide))
            have h0 : γ = 0 := by have h : γ < 1 := hN; omega
            subst h0
            have HI := Lib.hid (hi.2.1 (by omega))
            clear hR hN hp hρ hi
            go_light
            go_simp
            refine (table_copied d r C ec w' _ (HROW.out _ HI.out)).mono ?_
            rintro e' w3 ⟨A3, c3, he, ho3, hx3⟩
            have hot := HI.out
            have hg3 := hot.golo
            have hcap3 : r.length ≤ c3 := by obtain ⟨xs, ho, _⟩ := ho3; exact ho.cap
            exact ⟨_, he, 1, SR.up (by omega) ⟨by omega, fun _ => hot.more hx3, fun _ => (hot.more hx3).kept⟩, SN.up (by omega) (by decide) rfl, A3, c3, rfl, by omega, fun _ => ⟨(ho3.row (T := fun b => w'.heap.size ≤ b) HRL.out (fun b hb => (ho3.blk hb).1) (fun b hb => hb)).mono fun b _ hb => ⟨fun e => by have := (hot.rows.blk e).2; omega, HXF.out b (by omega), by omega⟩, hcap3⟩⟩
          · refine LinStep.yes fun vals γ w' ρ hR hN hp hρ hc hf hg => ⟨rfl, ?_⟩
            have hi := hR.inv ⟨by omega, fun _ => HM.out.more (Ext.refl _).drew, fun _ => (HM.out.more (Ext.refl _).drew).kept⟩
            obtain ⟨A3, c3, g3, hr1, hrow⟩ := hp 3 (by decide)
            have e43 : ρ (.tmp 43) = _ := (hρ 43).trans g3
            have h0 : γ = 1 := by have h : γ < 2 := hN; omega
            subst h0
            have HI := Lib.hid (hi.2.1 (by omega))
            have HRW := Lib.hid (hrow rfl)
            clear hR hN hp hρ hi g3 hrow
            go_light
            go_simp
            have hx1 : Ext w' (w'.alloc (.cells #[.slice A3 r.length c3] 45)) := (Ext.refl _).alloc _
            exact ⟨2, SR.up (by omega) ⟨by omega, fun _ => HI.out.more hx1, fun _ => (HI.out.more hx1).kept⟩, SN.up (by omega) (by decide) rfl, _, A3, c3, rfl, by omega, fun _ => ⟨Blk.new _ _ _, HRW.out.1.keep (hx1.kept _), HRW.out.2⟩⟩
          · refine LinStep.yes fun vals γ w' ρ hR hN hp hρ hc hf hg => ⟨rfl, ?_⟩
            have hi := hR.inv ⟨by omega, fun _ => HM.out.more (Ext.refl _).drew, fun _ => (HM.out.more (Ext.refl _).drew).kept⟩
            obtain ⟨g', A3, c3, g4, hr2, hbk⟩ := hp 4 (by decide)
            have e44 : ρ (.tmp 44) = _ := (hρ 44).trans g4
            have e41 : ρ (.tmp 41) = _ := (hρ 41).trans (hp 1 (by decide))
            have h0 : γ = 2 := by have h : γ < 3 := hN; omega
            subst h0
            obtain ⟨hbk1, hbk2, hbk3⟩ := hbk rfl
            have hot := hi.2.1 (by omega)
            obtain ⟨hs, ho1, hv1⟩ := hot.rows
            refine lin_app (.tmp 41) (.tmp 44) rfl tiR e41 ho1 e44 hbk1.rd rfl (by simp [Value.oneCell']) (by omega) (by decide) hot.golo.2.2 ?_
            intro A4 c4 w4 hown4 hg4 hat4
            have hota := hot.app ho1 hv1 hbk3 hbk2 hown4 hg4 hat4
            exact ⟨3, SR.up (by omega) ⟨by omega, fun h => absurd h (by omega), fun _ => hota.kept⟩, SN.up (by omega) (by decide) rfl, A4, c4, rfl, by omega, fun _ => hota⟩
          · refine LinStep.yes fun vals γ w' ρ hR hN hp hρ hc hf hg => ⟨rfl, ?_⟩
            have hi := hR.inv ⟨by omega, fun _ => HM.out.more (Ext.refl _).drew, fun _ => (HM.out.more (Ext.refl _).drew).kept⟩
            have e9 : ρ (.tmp 9) = .pointer (some ⟨go, 0, none⟩) := hρ 9
            clear hR hN hp hρ hi
            go_light
            go_simp
            exact ⟨γ, SR.refl _ _ _, fun _ _ _ h => h, rfl⟩
          · refine LinStep.yes fun vals γ w' ρ hR hN hp hρ hc hf hg => ⟨rfl, ?_⟩
            have hi := hR.inv ⟨by omega, fun _ => HM.out.more (Ext.refl _).drew, fun _ => (HM.out.more (Ext.refl _).drew).kept⟩
            obtain ⟨A4, c4, g7, hr3, hda⟩ := hp 5 (by decide)
            have e45 : ρ (.tmp 45) = _ := (hρ 45).trans g7
            have e46 : ρ (.tmp 46) = _ := (hρ 46).trans (hp 6 (by decide))
            have h0 : γ = 3 := by have h : γ < 4 := hN; omega
            subst h0
            have HA := Lib.hid (hda rfl)
            obtain ⟨y, hy⟩ := (hda rfl).out
            have k0 := hy.cell (i := 6) rfl
            have kf := hy.frozen
            have kz := hy.lt
            clear hR hN hp hρ hi g7 hda hy
            go_light
            go_simp
            have hs := HA.out.store
            rw [List.length_append, List.length_singleton] at hs
            exact ⟨4, SR.up (by omega) ⟨by omega, fun h => absurd h (by omega), fun h => absurd h (by omega)⟩, SN.up (by omega) (by decide) rfl, by omega, fun _ => ⟨A4, c4, hs⟩⟩
          · intro vals γ w7 hR hG
            have hi := hR.inv ⟨by omega, fun _ => HM.out.more (Ext.refl _).drew, fun _ => (HM.out.more (Ext.refl _).drew).kept⟩
            obtain ⟨h4, h5⟩ := hG 7 (by decide)
            obtain ⟨A4, c4, hm1⟩ := h5 (by have := hi.1; omega)
            rw [HE1.out, HE2.out, HE3.out, HE4.out] at hm1
            have HM7 := Lib.hid hm1
            clear hR hG hi h4 h5 hm1 HM HM6
            simp only [lexFrame, Act.put, List.setIfInBounds_toArray, List.set_cons_succ, List.set_cons_zero, Nat.zero_add, Nat.reduceAdd]
            generalize vals 0 = u0, vals 1 = u1, vals 2 = u2, vals 3 = u3, vals 4 = u4, vals 5 = u5, vals 6 = u6, vals 7 = u7
            go_wp2
            go_roundw
            case rel => exact ⟨k + 1, A4, c4, by omega, by go_num, by rw [whereRows_snoc m v0 t.rows hlt, HYE.out, ← HFB.out, if_pos rfl, ← HROWS.out, ← HRE.out]; exact HM7.out⟩
            case measure => simp [intOf]; omega
    · have hkr : k = t.rows.length := by omega
      subst hkr
      have hm := HM1.out
      rw [List.take_of_length_le (Nat.le_refl _)] at hm
      have hwl : (whereRows m v0 t.rows).length ≤ t.rows.length := List.length_filter_le _ _
      have HM := Lib.hid hm
      have HKP := Lib.hid (hm.kept.mono (T := fun b => b < w.heap.size + 3) fun b _ hb => ⟨by omega, by omega⟩)
      have HRS := Lib.hid (HB2.out.keep (HKP.out.mono fun b _ e => by omega))
      have t0 := hm.out.cell (i := 0) rfl
      have t1 := hm.out.cell (i := 1) rfl
      have t2 := hm.out.cell (i := 2) rfl
      have t3 := hm.out.cell (i := 3) rfl
      have t4 := hm.out.cell (i := 4) rfl
      have t5 := hm.out.cell (i := 5) rfl
      have t6 := hm.out.cell (i := 6) rfl
      have r0 := HRS.out.cell (i := 0) rfl
      have r1 := HRS.out.cell (i := 1) rfl
      have r2 := HRS.out.cell (i := 2) rfl
      have r3 := HRS.out.cell (i := 3) rfl
      have r4 := HRS.out.cell (i := 4) rfl
      have r5 := HRS.out.cell (i := 5) rfl
      have r6 := HRS.out.cell (i := 6) rfl
      have rf := HRS.out.frozen
      have rz := HRS.out.lt
      clear hm HM1
      go_wp2
      rw [HF.out]
      refine bodyPost_ret (v := .tuple #[.agg #[.int .i64 5, .string ⟨#[]⟩, .int .i64 0, .int .i64 0, .int .i64 0, .slice Ac t.cols.length cc, .slice Ar (whereRows m v0 t.rows).length cr], .int .i64 0]) (by simp [results, Tryz.results30, go_sem, r0, r1, r2, r3, r4, r5, r6]) rfl ⟨Ac, cc, Ar, cr, rfl, ⟨HCC.out, by obtain ⟨hs, ho, _⟩ := HM.out.rows; exact ho.cap⟩, ?_, ?_⟩
      · refine (RV.keep (S := fun b => w.heap.size + 3 ≤ b) (HM.out.val (by omega) (fun b hb => by omega) (fun b hb => hb)) ?_).mono fun b _ hb => by unfold Fresh; omega
        · iterate 7 with_reducible refine Kept.set2 ?_ (fun h => by omega)
          with_reducible exact Kept.refl _ _
      · iterate 7 with_reducible refine Ext.set2 ?_ (by omega) _
        with_reducible exact HM.out.ext
end Go.Proofs.YtcmmkeiiapbgcaaGreatDoor
/- The program's table.Pick. Conditions: the arguments read as data. -/
namespace Go.Proofs.YtcmmkeiiapbgcaaGreatDoor
open Go Go.RowKit
/-- The first k names are columns, and different. -/
def pickOK (tc cols : List ByteArray) (k : Nat) : Prop := ∀ j (hj : j < cols.length), j < k → 0 ≤ idxS tc cols[j] ∧ memS (cols.take j) cols[j] = false
def pickB (tc cols : List ByteArray) : Bool := (List.range cols.length).all fun j => decide (0 ≤ idxS tc (cols.getD j ⟨#[]⟩)) && !memS (cols.take j) (cols.getD j ⟨#[]⟩)
theorem pickB_true {tc cols : List ByteArray} (h : pickOK tc cols cols.length) : pickB tc cols = true := by
  unfold pickB
  rw [List.all_eq_true]
  intro j hj
  rw [List.mem_range] at hj
  rw [List.getD_eq_getElem?_getD, List.getElem?_eq_getElem hj, Option.getD_some]
  simp [(h j hj hj).1, (h j hj hj).2]
theorem pickB_false {tc cols : List ByteArray} {j : Nat} (hj : j < cols.length) (h : ¬ (0 ≤ idxS tc cols[j] ∧ memS (cols.take j) cols[j] = false)) : pickB tc cols = false := by
  unfold pickB
  rw [List.all_eq_false]
  refine ⟨j, List.mem_range.2 hj, ?_⟩
  rw [List.getD_eq_getElem?_getD, List.getElem?_eq_getElem hj, Option.getD_some]
  simpa using h
theorem pickOK_succ {tc cols : List ByteArray} {k : Nat} (h : pickOK tc cols k) (hk : k < cols.length) (h1 : 0 ≤ idxS tc cols[k]) (h2 : memS (cols.take k) cols[k] = false) : pickOK tc cols (k + 1) := by
  intro j hj hlt
  rcases Nat.lt_or_ge j k with h3 | h3
  · exact h j hj h3
  · obtain rfl : j = k := by omega
    exact ⟨h1, h2⟩
def pickRow (tc cols : List ByteArray) (r : List Val) : List Val := cols.map fun n => r.getD (idxS tc n).toNat Val.zero
def pickS (t : Val) (cols : List ByteArray) : Val × Int :=
  if isTabB t = false then (Val.zero, 14) else if pickB t.cols cols = false then (Val.zero, 13) else (tabV cols (t.rows.map (pickRow t.cols cols)), 0)

set_option maxRecDepth 100000 in
set_option maxHeartbeats 4000000 in
theorem table_Pick (d : Nat) (t : Val) (cols : List ByteArray) (A B Al : Option Addr) (c e cl : Nat) (w : World) (S T : Nat → Prop) (h : RV w S d t A B) (hcap : t.cols.length ≤ c) (hl : Strs w T Al cols) (hclc : cols.length ≤ cl) :
    Calls Tryz.prog 32 #[(.agg #[.int .i64 t.kind, .string t.s, .int .i64 t.dn, .int .i64 t.ds, .int .i64 t.n, .slice A t.cols.length c, .slice B t.rows.length e]), .slice Al cols.length cl] w (RetVE w (Fresh w) d (pickS t cols)) := by
  have H := Lib.hid (h.mono (T := fun b => b < w.heap.size) fun i hi _ => hi)
  have HL := Lib.hid (hl.mono (T := fun b => b < w.heap.size) fun i hi _ => hi)
  have hrl := h.rows_.len
  have hcl := hl.2.1
  have htl := h.strs.2.1
  clear h hl
  obtain ⟨W0, hW0⟩ : ∃ W0, W0 = (w.alloc (.cells #[.int .i64 t.kind, .string t.s, .int .i64 t.dn, .int .i64 t.ds, .int .i64 t.n, .slice A t.cols.length c, .slice B t.rows.length e] 33)).alloc (.cells #[.int .i64 0, .string ⟨#[]⟩, .int .i64 0, .int .i64 0, .int .i64 0, .slice none 0 0, .slice none 0 0] 33) := ⟨_, rfl⟩
  have HW0 := Lib.hid hW0
  have HX0 := Lib.hid (show Ext w W0 by rw [hW0]; exact ((Ext.refl w).alloc _).alloc _)
  have HB0 := Lib.hid (show Blk W0 w.heap.size 33 #[.int .i64 t.kind, .string t.s, .int .i64 t.dn, .int .i64 t.ds, .int .i64 t.n, .slice A t.cols.length c, .slice B t.rows.length e] by rw [hW0]; exact (Blk.new _ _ _).keep (Kept.alloc _ _ _))
  have HB2 := Lib.hid (show Blk W0 (w.heap.size + 1) 33 #[.int .i64 0, .string ⟨#[]⟩, .int .i64 0, .int .i64 0, .int .i64 0, .slice none 0 0, .slice none 0 0] by
    rw [hW0]
    have := Blk.new (w.alloc (.cells #[.int .i64 t.kind, .string t.s, .int .i64 t.dn, .int .i64 t.ds, .int .i64 t.n, .slice A t.cols.length c, .slice B t.rows.length e] 33)) 33 #[.int .i64 0, .string ⟨#[]⟩, .int .i64 0, .int .i64 0, .int .i64 0, .slice none 0 0, .slice none 0 0]
    simpa using this)
  have HS0 := Lib.hid (show W0.heap.size = w.heap.size + 2 by rw [hW0]; simp)
  clear hW0
  go_enter Tryz.func32, Tryz.ntmps32
  go_wp2_with fail
  rw [← HW0.out]
  refine (table_isTable d t A B c e W0 _ (H.out.keep (HX0.out.kept _)) hcap).mono ?_
  rintro e1 w1 ⟨rfl, hx1⟩
  have HX1 := Lib.hid (HX0.out.trans hx1)
  have HB01 := Lib.hid (HB0.out.keep (hx1.kept _))
  have HB21 := Lib.hid (HB2.out.keep (hx1.kept _))
  have hz1 : w.heap.size + 2 ≤ w1.heap.size := by have := hx1.size; have := HS0.out; omega
  clear hx1 HB0 HB2 HW0 HX0 HS0
  rw [show (decide (t.kind = 5) && rightB t) = isTabB t from rfl]
  cases hT : isTabB t
  · have HF := Lib.hid (show pickS t cols = (Val.zero, 14) by simp [pickS, hT])
    clear hT
    have r0 := HB21.out.cell (i := 0) rfl
    have r1 := HB21.out.cell (i := 1) rfl
    have r2 := HB21.out.cell (i := 2) rfl
    have r3 := HB21.out.cell (i := 3) rfl
    have r4 := HB21.out.cell (i := 4) rfl
    have r5 := HB21.out.cell (i := 5) rfl
    have r6 := HB21.out.cell (i := 6) rfl
    have rf := HB21.out.frozen
    have rz := HB21.out.lt
    go_wp2
    rw [HF.out]
    refine bodyPost_ret (v := .tuple #[(.agg #[.int .i64 Val.zero.kind, .string Val.zero.s, .int .i64 Val.zero.dn, .int .i64 Val.zero.ds, .int .i64 Val.zero.n, .slice none Val.zero.cols.length 0, .slice none Val.zero.rows.length 0]), .int .i64 14]) (by simp [results, Tryz.results32, go_sem, r0, r1, r2, r3, r4, r5, r6, Val.zero]) rfl ⟨none, 0, none, 0, rfl, ⟨Nat.le_refl _, Nat.le_refl _⟩, RV.zero, ?_⟩
    iterate 7 with_reducible refine Ext.set2 ?_ (by omega) _
    with_reducible exact HX1.out
  have HT := Lib.hid hT
  clear hT
  obtain ⟨cur, hmk, hcur⟩ := run_mk0 tiI cols.length (by omega) (by decide)
  have HST := Lib.hid (show OwnIs (w1.alloc (.cells cur 3)) w1.heap.size (some ⟨w1.heap.size, 0, none⟩) cols.length ((cols.take 0).map (idxS t.cols)) from Own.made w1 _ _ _ cur (by unfold maxLen; omega) hcur)
  clear hcur
  go_wp2
  clear hmk
  go_loopw [25, 6] (fun i v wr => ∃ (k : Nat) (A' : Option Addr) (c' : Nat), k ≤ cols.length ∧ i = .int .i64 k ∧ v = .slice A' k c' ∧ Ext w1 wr ∧ OwnIs wr w1.heap.size A' c' ((cols.take k).map (idxS t.cols)) ∧ pickOK t.cols cols k) (fun i _ _ => cols.length - (intOf i).toNat)
  case atStart => exact ⟨0, _, _, Nat.zero_le _, rfl, rfl, (Ext.refl w1).alloc _, HST.out, fun j hj h => absurd h (by omega)⟩
  case round =>
    clear HST
    obtain ⟨k, A', c', hk, rfl, rfl, hx2, ho2, hpk⟩ := hrel
    have HX2 := Lib.hid hx2
    have HO2 := Lib.hid ho2
    have HPK := Lib.hid hpk
    have HB02 := Lib.hid (HB01.out.keep (hx2.kept _))
    have HB22 := Lib.hid (HB21.out.keep (hx2.kept _))
    have k5 := HB02.out.cell (i := 5) rfl
    have kz := HB02.out.lt
    clear hx2 ho2 hpk
    by_cases hlt : k < cols.length
    · obtain ⟨bl, ol, hAl, hbl, hcl0⟩ := (HL.out.keep ((HX1.out.trans HX2.out).kept _)).at_ hlt
      subst hAl
      obtain ⟨nm, hnm⟩ : ∃ nm, nm = cols[k] := ⟨_, rfl⟩
      rw [← hnm] at hcl0
      have HNM := Lib.hid hnm
      have i0 : (0 : Int) ≤ (k : Int) := by omega
      have i1 : (k : Int) < (cols.length : Int) := by omega
      clear hnm
      go_wp2_with fail
      refine (slices_Index A c t.cols nm _ _ (H.out.strs.keep ((HX1.out.trans HX2.out).kept _))).mono ?_
      rintro e2 w2 ⟨rfl, rfl⟩
      by_cases hneg : idxS t.cols nm < 0
      · have HF := Lib.hid (show pickS t cols = (Val.zero, 13) by
          unfold pickS
          rw [HT.out, pickB_false hlt (by rw [← HNM.out]; omega)]
          rfl)
        have r0 := HB22.out.cell (i := 0) rfl
        have r1 := HB22.out.cell (i := 1) rfl
        have r2 := HB22.out.cell (i := 2) rfl
        have r3 := HB22.out.cell (i := 3) rfl
        have r4 := HB22.out.cell (i := 4) rfl
        have r5 := HB22.out.cell (i := 5) rfl
        have r6 := HB22.out.cell (i := 6) rfl
        have rf := HB22.out.frozen
        have rz := HB22.out.lt
        go_wp2
        rw [HF.out]
        refine bodyPost_ret (v := .tuple #[(.agg #[.int .i64 Val.zero.kind, .string Val.zero.s, .int .i64 Val.zero.dn, .int .i64 Val.zero.ds, .int .i64 Val.zero.n, .slice none Val.zero.cols.length 0, .slice none Val.zero.rows.length 0]), .int .i64 13]) (by simp [results, Tryz.results32, go_sem, r0, r1, r2, r3, r4, r5, r6, Val.zero]) rfl ⟨none, 0, none, 0, rfl, ⟨Nat.le_refl _, Nat.le_refl _⟩, RV.zero, ?_⟩
        iterate 7 with_reducible refine Ext.set2 ?_ (by omega) _
        with_reducible exact HX1.out.trans HX2.out
      have hdn : decide (idxS t.cols nm < 0) = false := by simpa using hneg
      obtain ⟨p, hp⟩ : ∃ p, p = idxS t.cols nm := ⟨_, rfl⟩
      rw [← hp] at hdn hneg
      rw [← hp]
      have HPE := Lib.hid hp
      clear hp
      have i3 : k ≤ cols.length := hk
      have i4 : cols.length ≤ cl := hclc
      have hcc := slices_Contains (some ⟨bl, ol, none⟩) cl (cols.take k) nm wr _ ((HL.out.keep ((HX1.out.trans HX2.out).kept _)).take k)
      rw [List.length_take, Nat.min_eq_left hk] at hcc
      have HCC := Lib.hid hcc
      clear hcc
      go_wp2_with fail
      refine HCC.out.mono ?_
      rintro e3 w3 ⟨rfl, rfl⟩
      cases hmm : memS (cols.take k) nm
      · have HMM := Lib.hid hmm
        clear hmm HCC
        have hoi := Own.ext HO2.out ((Ext.refl wr).alloc (.cells #[.int .i64 p] 3))
        rw [List.length_map, List.length_take, Nat.min_eq_left hk] at hoi
        have HOI := Lib.hid hoi
        clear hoi
        go_wp2_with (at_builtin; go_must (refine wpList_app rfl (.tmp 44) (.tmp 46) rfl tiI rfl HOI.out rfl (Blk.rd (Blk.new _ _ _)) rfl (by simp [Value.oneCell']) (by omega) (by decide) (by have := HX2.out.size; simp; omega) ?_); intro A4 c4 w4 hown4 hg4 hat4)
        go_roundw
        case rel =>
          refine ⟨k + 1, A4, c4, by omega, by go_num, rfl, (HX2.out.alloc _).grown hg4 (fun b hb => (HOI.out.blk hb).1), ?_, pickOK_succ HPK.out hlt (by rw [← HNM.out, ← HPE.out]; omega) (by rw [← HNM.out]; exact HMM.out)⟩
          have h9 : ((cols.take (k + 1)).map (idxS t.cols)) = (cols.take k).map (idxS t.cols) ++ [p] := by rw [List.take_succ_eq_append_getElem hlt, List.map_append, HPE.out, HNM.out]; rfl
          rw [h9]
          unfold OwnIs
          rw [List.length_append, List.length_map, List.length_take, Nat.min_eq_left hk, List.map_append]
          exact hown4
        case measure => simp [intOf]; omega
      · have HF := Lib.hid (show pickS t cols = (Val.zero, 13) by
          unfold pickS
          rw [HT.out, pickB_false hlt (by rw [← HNM.out, hmm]; simp)]
          rfl)
        clear hmm HCC
        have r0 := HB22.out.cell (i := 0) rfl
        have r1 := HB22.out.cell (i := 1) rfl
        have r2 := HB22.out.cell (i := 2) rfl
        have r3 := HB22.out.cell (i := 3) rfl
        have r4 := HB22.out.cell (i := 4) rfl
        have r5 := HB22.out.cell (i := 5) rfl
        have r6 := HB22.out.cell (i := 6) rfl
        have rf := HB22.out.frozen
        have rz := HB22.out.lt
        go_wp2
        rw [HF.out]
        refine bodyPost_ret (v := .tuple #[(.agg #[.int .i64 Val.zero.kind, .string Val.zero.s, .int .i64 Val.zero.dn, .int .i64 Val.zero.ds, .int .i64 Val.zero.n, .slice none Val.zero.cols.length 0, .slice none Val.zero.rows.length 0]), .int .i64 13]) (by simp [results, Tryz.results32, go_sem, r0, r1, r2, r3, r4, r5, r6, Val.zero]) rfl ⟨none, 0, none, 0, rfl, ⟨Nat.le_refl _, Nat.le_refl _⟩, RV.zero, ?_⟩
        iterate 7 with_reducible refine Ext.set2 ?_ (by omega) _
        with_reducible exact HX1.out.trans HX2.out
    · have hkr : k = cols.length := by omega
      subst hkr
      have HPB := Lib.hid (pickB_true HPK.out)
      obtain ⟨pl, hpl⟩ : ∃ pl : List Int, pl = cols.map (idxS t.cols) := ⟨_, rfl⟩
      have hpll : pl.length = cols.length := by rw [hpl, List.length_map]
      have HPL := Lib.hid hpl
      have HO := Lib.hid (show OwnIs wr w1.heap.size A' c' pl by have := HO2.out; rwa [List.take_of_length_le (Nat.le_refl _), ← hpl] at this)
      have HPLL := Lib.hid hpll
      have HF := Lib.hid (show pickS t cols = (tabV cols (t.rows.map (pickRow t.cols cols)), 0) by
        unfold pickS
        rw [HT.out, HPB.out]
        rfl)
      have HXW := Lib.hid (HX1.out.trans HX2.out)
      clear hpl hpll HO2
      go_wp2_with fail
      refine (slices_Clone Al cl cols _ _ (HL.out.keep (HXW.out.kept _))).mono ?_
      rintro e3 w3 ⟨Ac, cc, rfl, hcc, hst, hx3⟩
      have HX3 := Lib.hid (HXW.out.trans hx3)
      have hz3 : w.heap.size + 2 ≤ w3.heap.size := by have h1 := HX2.out.size; have h2 := hx3.size; omega
      have hz3' : wr.heap.size ≤ w3.heap.size := hx3.size
      have HB03 := Lib.hid (HB02.out.keep (hx3.kept _))
      have HB23 := Lib.hid (HB22.out.keep (hx3.kept _))
      have HO3 := Lib.hid (HO.out.ext hx3)
      obtain ⟨w5, hw5⟩ : ∃ w5, w5 = w3.alloc (.cells #[.int .i64 5, .string ⟨#[]⟩, .int .i64 0, .int .i64 0, .int .i64 0, .slice Ac cols.length cc, .slice none 0 0] 33) := ⟨_, rfl⟩
      have hx35 : Ext w3 w5 := by rw [hw5]; exact (Ext.refl _).alloc _
      obtain ⟨go, hgo⟩ : ∃ go, go = w3.heap.size := ⟨_, rfl⟩
      have HM0 := Lib.hid (show OutT w w5 (go + 1) (fun b => w.heap.size + 2 ≤ b) d go Ac cc cols none 0 ((t.rows.take 0).map (pickRow t.cols cols)) w5 from ⟨HX3.out.trans hx35, Kept.refl _ _, ⟨by omega, by omega, by rw [hw5, hgo]; simp⟩, by rw [hw5, hgo]; exact Blk.new _ _ _, (hst.mono (T := fun b => ob none ≠ some b ∧ w.heap.size + 2 ≤ b ∧ b ≠ go) fun b hb hb' => ⟨by simp [ob], by have h1 := HX2.out.size; unfold Fresh at hb'; omega, by omega⟩).keep (hx35.kept _), OwnRs.nil _ _ _ _⟩)
      have HPI := Lib.hid ((HO3.out.ints (T := fun b => b < go) (by rw [HPLL.out]; omega) fun b hb => by rw [hgo]; exact (Own.blk HO3.out hb).2).keep (hx35.kept _))
      have HCC := Lib.hid hcc
      have HB0 := Lib.hid (HB03.out.keep (hx35.kept _))
      have HB2 := Lib.hid (HB23.out.keep (hx35.kept _))
      have k6 := HB03.out.cell (i := 6) rfl
      have kz3 := HB03.out.lt
      have HW5 := Lib.hid hw5
      have HGO := Lib.hid hgo
      have hgz : w.heap.size + 2 ≤ go := by omega
      clear hst hx3 hx35 hcc HB03 HB23 HB02 HB22 HO3 HO hw5 hgo k5 kz
      go_wp2
      rw [← HW5.out, ← HGO.out]
      clear HW5 HGO k6 kz3 hz3 hz3'
      go_loopw [55] (fun i wr => ∃ (k : Nat) (Ar : Option Addr) (cr : Nat), k ≤ t.rows.length ∧ i = .int .i64 k ∧ OutT w w5 (go + 1) (fun b => w.heap.size + 2 ≤ b) d go Ac cc cols Ar cr ((t.rows.take k).map (pickRow t.cols cols)) wr) (fun i _ => t.rows.length - (intOf i).toNat)
      case atStart => exact ⟨0, none, 0, Nat.zero_le _, rfl, HM0.out⟩
      case round =>
        clear HM0
        obtain ⟨k, Ar, cr, hk2, rfl, hm0⟩ := hrel
        have HM1 := Lib.hid hm0
        clear hm0
        by_cases hlt : k < t.rows.length
        · obtain ⟨b, o, C, ec, hB, hb, hc0, hcp, hrow⟩ := H.out.rows_.at_ hlt
          obtain ⟨r, hr⟩ : ∃ r, r = t.rows[k] := ⟨_, rfl⟩
          have HRLEN := Lib.hid (show r.length = t.cols.length by rw [hr]; exact isTab_row HT.out hlt)
          rw [← hr] at hc0 hcp hrow
          have HRE := Lib.hid hr
          have HROW := Lib.hid hrow
          subst hB
          have z0 := HM1.out.ext.cell hc0
          have zz : b < wr.heap.size := Nat.lt_of_lt_of_le hb HM1.out.ext.size
          have i0 : (0 : Int) ≤ (k : Int) := by omega
          have i1 : (k : Int) < (t.rows.length : Int) := by omega
          have hcap2 : cols.length ≤ 4294967296 := hcl
          obtain ⟨cur2, hmk2, hcur2⟩ := run_mk0 tiV cols.length (by omega) (by decide)
          obtain ⟨wo, rfl⟩ : ∃ wo : World, wo = wr := ⟨_, rfl⟩
          obtain ⟨pr, hpr⟩ : ∃ pr, pr = pickRow t.cols cols r := ⟨_, rfl⟩
          have HPR := Lib.hid hpr
          have HPRL := Lib.hid (show pr.length = cols.length by rw [hpr]; simp [pickRow])
          have HST := Lib.hid (show OwnVs (wo.alloc (.cells cur2 33)) wo.heap.size (fun b => wo.heap.size ≤ b) d (some ⟨wo.heap.size, 0, none⟩) cols.length (pr.take 0) from ⟨[], Own.made wo _ _ _ cur2 (by unfold maxLen; omega) hcur2, VL.nil _⟩)
          clear hc0 hr hrow hcur2 hpr
          go_wp2
          clear hmk2
          go_loopw [64, 13] (fun i v wi => ∃ (j : Nat) (A5 : Option Addr) (c5 : Nat), j ≤ cols.length ∧ i = .int .i64 j ∧ v = .slice A5 j c5 ∧ Ext wo wi ∧ OwnVs wi wo.heap.size (fun b => wo.heap.size ≤ b) d A5 c5 (pr.take j)) (fun i _ _ => cols.length - (intOf i).toNat)
          case atStart => exact ⟨0, _, _, Nat.zero_le _, rfl, rfl, (Ext.refl wo).alloc _, HST.out⟩
          case round =>
            clear HST
            obtain ⟨j, A5, c5, hj, rfl, rfl, hbi, hoi⟩ := hrel
            have HBI := Lib.hid hbi
            have HOI := Lib.hid hoi
            have hszi := hbi.size
            clear hbi hoi z0 zz
            by_cases hlt2 : j < cols.length
            · have hjp : j < pl.length := by rw [HPLL.out]; exact hlt2
              obtain ⟨bp, op, hAp, hbp, hcp0⟩ := (HPI.out.keep ((HM1.out.kept.mono fun b _ hb => ⟨by omega, by omega⟩).trans (HBI.out.kept _))).at_ hjp
              subst hAp
              have hp0 := (HPK.out j hlt2 hlt2).1
              obtain ⟨pn, hpn, hpc, -⟩ := idxS_at hp0
              have hplj : pl[j] = (pn : Int) := by
                rw [← hpn]
                have : pl[j]? = some (idxS t.cols cols[j]) := by rw [HPL.out, List.getElem?_map, List.getElem?_eq_getElem hlt2]; rfl
                rw [List.getElem?_eq_getElem hjp] at this
                exact Option.some.inj this
              rw [hplj] at hcp0
              have hpr2 : pn < r.length := by rw [HRLEN.out]; exact hpc
              obtain ⟨b2, o2, Ay, cy, By, ey, hC, hb2, ⟨y0, y1, y2, y3, y4, y5, y6⟩, ⟨hq, _, _⟩, hyv⟩ := (HROW.out.keep ((HM1.out.ext.trans HBI.out).kept _)).at_ hpr2
              subst hC
              have HYV := Lib.hid hyv
              have HYE := Lib.hid (show ∃ h : j < pr.length, pr[j] = r[pn] by
                refine ⟨by rw [HPRL.out]; exact hlt2, ?_⟩
                have h1 : pr[j]? = some (r.getD pn Val.zero) := by rw [HPR.out, pickRow, List.getElem?_map, List.getElem?_eq_getElem hlt2]; simp [hpn]
                rw [List.getElem?_eq_getElem (by rw [HPRL.out]; exact hlt2)] at h1
                rw [Option.some.inj h1, List.getD_eq_getElem?_getD, List.getElem?_eq_getElem hpr2, Option.getD_some])
              have i2 : (0 : Int) ≤ (j : Int) := by omega
              have i3 : (j : Int) < (cols.length : Int) := by omega
              have i4 : (0 : Int) ≤ (pn : Int) := by omega
              have i5 : (pn : Int) < (r.length : Int) := by omega
              obtain ⟨y, hy⟩ : ∃ y, y = r[pn] := ⟨_, rfl⟩
              rw [← hy] at y0 y1 y2 y3 y4 y5 y6 HYV HYE
              clear hyv hplj hp0 hpn hpc hy hjp
              go_wp2_with fail
              refine (value_Copy (d - 1) y _ _ _ _ _ _ HYV.out).mono ?_
              rintro e3 w3 ⟨A3, c3, B3, e3, rfl, hcc3, hv3, hx3⟩
              have HX3b := Lib.hid hx3
              have hz3 := hx3.size
              have hv3' := hv3.mono (T := fun b => wr.heap.size ≤ b) (fun i _ hi => hi)
              obtain ⟨xs, hown, hvl⟩ := HOI.out.ext (HX3b.out.alloc (.cells (vcells y A3 c3 B3 e3).toArray 33))
              have hlj : (pr.take j).length = j := by rw [List.length_take, HPRL.out]; omega
              have HVL := Lib.hid hvl
              rw [hlj] at hown
              have HOWN := Lib.hid hown
              have HLJ := Lib.hid hlj
              have HV3 := Lib.hid hv3'
              clear hvl hown hv3 hv3' hx3 hlj
              go_wp2_with (at_builtin; go_must (refine wpList_app rfl (.tmp 68) (.tmp 74) rfl tiV rfl HOWN.out rfl (Blk.rd (Blk.new _ _ _)) rfl vcells_one (by omega) (by decide) (by simp; omega) ?_); intro A4 c4 w4 hown4 hg4 hat4)
              go_roundw
              case rel =>
                refine ⟨j + 1, A4, c4, by omega, by go_num, rfl, ?_, ?_⟩
                · exact ((HBI.out.trans HX3b.out).alloc _).grown hg4 (fun k hk => (HOWN.out.blk hk).1)
                · obtain ⟨hjl, hje⟩ := HYE.out
                  rw [List.take_succ_eq_append_getElem hjl, hje]
                  refine OwnVs.push HVL.out (by rw [HLJ.out]; exact hown4) hg4 hat4 ⟨hq, hcc3⟩ ((HV3.out.keep (Kept.alloc _ _ _)).mono fun i _ hi => ⟨fun h0 => ?_, by omega⟩)
                  have := (HOI.out.blk h0).2
                  omega
              case measure => simp [intOf]; omega
            · have hjr : j = cols.length := by omega
              subst hjr
              have hor := HOI.out
              rw [List.take_of_length_le (by rw [HPRL.out]; exact Nat.le_refl _)] at hor
              have hm2 := (HM1.out.more HBI.out).more ((Ext.refl wr).alloc (.cells #[.slice A5 cols.length c5] 45))
              have HM2 := Lib.hid hm2
              have HORW := Lib.hid (((hor.row (T := fun b => wo.heap.size ≤ b) (by rw [HPRL.out]; omega) (fun b hb => (hor.blk hb).1) (fun b hb => hb)).keep (Kept.alloc _ wr (.cells #[.slice A5 cols.length c5] 45))).mono (T := fun b => ob Ar ≠ some b ∧ w.heap.size + 2 ≤ b ∧ b ≠ go) fun b _ hb => ⟨fun e => by have := (HM1.out.rows.blk e).2; omega, by have := HM1.out.golo; omega, by have := HM1.out.golo; omega⟩)
              have HC5 := Lib.hid (show pr.length ≤ c5 by obtain ⟨xs, ho, _⟩ := hor; exact ho.cap)
              obtain ⟨hs, ho1, hv1⟩ := hm2.rows
              have hml : ((t.rows.take k).map (pickRow t.cols cols)).length = k := by rw [List.length_map, List.length_take]; omega
              have HML := Lib.hid hml
              have ho1' := ho1
              rw [hml] at ho1'
              have HO1 := Lib.hid ho1
              have HO1' := Lib.hid ho1'
              have HV1 := Lib.hid hv1
              have hb6 := (HM1.out.more HBI.out).out
              rw [hml] at hb6
              have t6 := hb6.cell (i := 6) rfl
              have tz := hb6.lt
              clear hor hm2 ho1 hv1 hml ho1' hb6
              go_wp2_with (at_builtin; go_must (refine wpList_app rfl (.tmp 78) (.tmp 80) rfl tiR rfl HO1'.out rfl (Blk.rd (Blk.new _ _ _)) rfl (by simp [Value.oneCell']) (by omega) (by decide) (by have := HM2.out.golo; omega) ?_); intro A4 c4 w4 hown4 hg4 hat4; have hota := HM2.out.app (r := pr) (B := A5) (e := c5) HO1.out HV1.out HC5.out HORW.out (by rw [HML.out, HPRL.out]; exact hown4) hg4 hat4; have HOTA := Lib.hid hota; obtain ⟨yy, hyy⟩ := hota.out; have q6 := hyy.cell (i := 6) rfl; have qf := hyy.frozen; have qz := hyy.lt; clear hota hyy hown4 hg4 hat4)
              go_roundw
              case rel =>
                refine ⟨k + 1, A4, c4, by omega, by go_num, ?_⟩
                have h9 := HOTA.out.store
                rw [List.length_append, HML.out, List.length_singleton] at h9
                rw [List.take_succ_eq_append_getElem hlt, List.map_append, ← HRE.out]
                rw [HPR.out] at h9
                exact h9
              case measure => simp [intOf]; omega
        · have hkr : k = t.rows.length := by omega
          subst hkr
          have hm := HM1.out
          rw [List.take_of_length_le (Nat.le_refl _)] at hm
          have HM := Lib.hid hm
          have hwl : (t.rows.map (pickRow t.cols cols)).length = t.rows.length := List.length_map _
          have HWL := Lib.hid hwl
          have HKP := Lib.hid (hm.kept.mono (T := fun b => b < w.heap.size + 2) fun b _ hb => ⟨by omega, by omega⟩)
          have HRS := Lib.hid (HB2.out.keep (HKP.out.mono fun b _ e => by omega))
          have t0 := hm.out.cell (i := 0) rfl
          have t1 := hm.out.cell (i := 1) rfl
          have t2 := hm.out.cell (i := 2) rfl
          have t3 := hm.out.cell (i := 3) rfl
          have t4 := hm.out.cell (i := 4) rfl
          have t5 := hm.out.cell (i := 5) rfl
          have t6 := hm.out.cell (i := 6) rfl
          have r0 := HRS.out.cell (i := 0) rfl
          have r1 := HRS.out.cell (i := 1) rfl
          have r2 := HRS.out.cell (i := 2) rfl
          have r3 := HRS.out.cell (i := 3) rfl
          have r4 := HRS.out.cell (i := 4) rfl
          have r5 := HRS.out.cell (i := 5) rfl
          have r6 := HRS.out.cell (i := 6) rfl
          have rf := HRS.out.frozen
          have rz := HRS.out.lt
          clear hm HM1 hwl
          go_wp2
          rw [HF.out]
          refine bodyPost_ret (v := .tuple #[.agg #[.int .i64 5, .string ⟨#[]⟩, .int .i64 0, .int .i64 0, .int .i64 0, .slice Ac cols.length cc, .slice Ar (t.rows.map (pickRow t.cols cols)).length cr], .int .i64 0]) (by simp [results, Tryz.results32, go_sem, r0, r1, r2, r3, r4, r5, r6]) rfl ⟨Ac, cc, Ar, cr, rfl, ⟨HCC.out, by obtain ⟨hs, ho, _⟩ := HM.out.rows; exact ho.cap⟩, ?_, ?_⟩
          · refine (RV.keep (S := fun b => w.heap.size + 2 ≤ b) (HM.out.val (by rw [HWL.out]; omega) (fun b hb => by omega) (fun b hb => hb)) ?_).mono fun b _ hb => by unfold Fresh; omega
            iterate 7 with_reducible refine Kept.set2 ?_ (fun h => by omega)
            with_reducible exact Kept.refl _ _
          · iterate 7 with_reducible refine Ext.set2 ?_ (by omega) _
            with_reducible exact HM.out.ext
end Go.Proofs.YtcmmkeiiapbgcaaGreatDoor
