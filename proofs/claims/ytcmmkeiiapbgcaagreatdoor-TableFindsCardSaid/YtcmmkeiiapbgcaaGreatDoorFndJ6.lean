/- The reference's Copy of lookup tables; what Odd keeps in memory. Conditions: the argument reads as data. -/
import Derived.Test.YtcmmkeiiapbgcaaGreatDoorFndJ5
import Derived.Laws.BytesArg
import Derived.WalkSpells
import Derived.IntWalk
namespace Go.Proofs.YtcmmkeiiapbgcaaGreatDoor
open Go Go.RowKit

theorem Rows.up {w : World} {S : Nat → Prop} {d d' : Nat} {B : Option Addr} {l : List (List Val)} (h : Rows w S d B l) (hd : d ≤ d') : Rows w S d' B l :=
  h.imp fun y cs ⟨A, c, B, e, h1, h2, h3⟩ => ⟨A, c, B, e, h1, ⟨by omega, h2.2⟩, h3.up (by omega)⟩
theorem RL.up {w : World} {S : Nat → Prop} {d d' : Nat} {t : Look} {A B : Option Addr} (h : RL w S d t A B) (hd : d ≤ d') : RL w S d' t A B := ⟨h.1, h.2.1, h.2.2.up hd⟩
def RetCpL (w : World) (d : Nat) (t : Look) (e : Ending) (w' : World) : Prop := ∃ (Ac : Option Addr) (cc : Nat) (Ar : Option Addr) (cr : Nat), e = .returned (.agg #[.string t.name, .slice Ac t.cols.length cc, .slice Ar t.rows.length cr]) ∧ OwnSs w' w.heap.size Ac cc t.cols ∧ OwnRR w' w.heap.size (fun b => ob Ac = some b) d Ar cr t.rows ∧ (∀ b, ob Ac = some b → ob Ar ≠ some b) ∧ Ext w w'
def ZL : Array Value := #[.string ⟨#[]⟩, .slice none 0 0, .slice none 0 0]
set_option maxRecDepth 100000 in
set_option maxHeartbeats 1000000 in
theorem r09_Copy (d : Nat) (t : Look) (A B : Option Addr) (c e : Nat) (w : World) (S : Nat → Prop) (h : RL w S d t A B) : Calls Tryz.prog 43 #[(.agg #[.string t.name, .slice A t.cols.length c, .slice B t.rows.length e])] w (RetCpL w d t) := by
  have H := Lib.hid h
  clear h
  obtain ⟨x, hx⟩ : ∃ x, x = tabV t.cols t.rows := ⟨_, rfl⟩
  have HXE := Lib.hid hx
  clear hx
  obtain ⟨W0, hW0⟩ : ∃ W0, W0 = ((w.alloc (.cells #[.string t.name, .slice A t.cols.length c, .slice B t.rows.length e] 28)).alloc (.cells #[.string ⟨#[]⟩, .slice none 0 0, .slice none 0 0] 28)) := ⟨_, rfl⟩
  have HW0 := Lib.hid hW0
  have hx0 : Ext w W0 := by rw [hW0]; exact ((Ext.refl w).alloc _).alloc _
  have b0 : Blk W0 w.heap.size 28 #[.string t.name, .slice A t.cols.length c, .slice B t.rows.length e] := by rw [hW0]; exact (Blk.new _ _ _).keep (Kept.alloc _ _ _)
  have b1 : Blk W0 (w.heap.size + 1) 28 #[.string ⟨#[]⟩, .slice none 0 0, .slice none 0 0] := by
    rw [hW0]
    have := Blk.new (w.alloc (.cells #[.string t.name, .slice A t.cols.length c, .slice B t.rows.length e] 28)) 28 #[.string ⟨#[]⟩, .slice none 0 0, .slice none 0 0]
    simpa using this
  have hs0 : W0.heap.size = w.heap.size + 2 := by rw [hW0]; simp
  have HX0 := Lib.hid hx0
  have HB0 := Lib.hid b0
  have HB1 := Lib.hid b1
  have HS0 := Lib.hid hs0
  clear hW0 hx0 b0 b1 hs0
  go_enter Tryz.func43, Tryz.ntmps43
  go_wp2_with fail
  rw [← HW0.out]
  refine (r09_Value t x HXE.out A B c e W0).mono ?_
  rintro e1 w1 ⟨rfl, hx1⟩
  have HX1 := Lib.hid hx1
  clear hx1
  go_wp2_with fail
  have hv := (H.out.keep ((HX0.out.trans HX1.out).kept S)).val
  rw [← HXE.out] at hv
  refine (r06_Copy d x A B c e w1 S hv).mono ?_
  rintro e2 w2 ⟨Ac, cc, Ar, cr, rfl, hoc, hor, hsep, hx2⟩
  have hx12 := HX1.out.trans hx2
  have HB0b := Lib.hid (HB0.out.keep (hx12.kept _))
  have HB1b := Lib.hid (HB1.out.keep (hx12.kept _))
  have l0 := HB0b.out.cell (i := 0) rfl
  have r0 := HB1b.out.cell (i := 0) rfl
  have r1 := HB1b.out.cell (i := 1) rfl
  have r2 := HB1b.out.cell (i := 2) rfl
  have lz := HB0b.out.lt
  have rz := HB1b.out.lt
  have rf := HB1b.out.frozen
  have hz1 : w.heap.size + 2 ≤ w1.heap.size := by have := HX1.out.size; have := HS0.out; omega
  have hcs : x.cols = t.cols := by rw [HXE.out]; rfl
  have hrs : x.rows = t.rows := by rw [HXE.out]; rfl
  rw [hcs] at hoc
  rw [hrs] at hor
  rw [hcs, hrs]
  have HOC := Lib.hid hoc
  have HOR := Lib.hid hor
  have HXF := Lib.hid (HX0.out.trans hx12)
  clear hoc hor hx2 hx12 hv hcs hrs
  have hza : w.heap.size + 1 < w2.heap.size + 1 := by omega
  have hzb : w.heap.size < w2.heap.size + 1 := by omega
  have hne : w.heap.size + 1 ≠ w2.heap.size := by omega
  have hne2 : w.heap.size ≠ w2.heap.size := by omega
  go_wp2
  refine bodyPost_ret (v := (.agg #[.string t.name, .slice Ac t.cols.length cc, .slice Ar t.rows.length cr])) (by simp [results, Tryz.results43, go_sem, r0, r1, r2, rf, rz, hza, hne]) rfl ?_
  refine ⟨Ac, cc, Ar, cr, rfl, ⟨?_, HOC.out.2⟩, ?_, hsep, ?_⟩
  · refine Own.lower (HOC.out.1.keep ?_) (show w.heap.size ≤ w1.heap.size by omega)
    have hb : ∀ b, ob Ac = some b → w1.heap.size ≤ b := fun b h => (HOC.out.1.blk h).1
    refine Kept.trans ?_ (Kept.alloc _ _ _)
    iterate 3 with_reducible refine Kept.set2 ?_ (fun h => by have := hb _ h; omega)
    with_reducible exact Kept.refl _ _
  · refine OwnRR.lower (HOR.out.keep ?_ fun b hb hb' => hsep b hb' hb) (show w.heap.size ≤ w1.heap.size by omega)
    refine Kept.trans ?_ (Kept.alloc _ _ _)
    iterate 3 with_reducible refine Kept.set2 ?_ (fun h => by have := h.1; omega)
    with_reducible exact Kept.refl _ _
  · refine Ext.alloc ?_ _
    iterate 3 with_reducible refine Ext.set2 ?_ (by omega) _
    with_reducible exact HXF.out
end Go.Proofs.YtcmmkeiiapbgcaaGreatDoor
/- What Odd keeps in memory: rows of the call's own, a row or a cell being replaced. No conditions. -/
namespace Go.Proofs.YtcmmkeiiapbgcaaGreatDoor
open Go Go.RowKit

def zeroRow (n : Nat) : Array Value := madeCells #[.int .i64 0, .string ⟨#[]⟩, .int .i64 0, .int .i64 0, .int .i64 0, .slice none 0 0, .slice none 0 0] (n * 7)
theorem run_mkV (n : Nat) (hn : n ≤ 1000000) : ∀ w : World, (Instr.makeSlice 45 (.int .i64 (n : Int)) (.int .i64 (n : Int))).run Tryz.prog w = .ok (.slice (some ⟨w.heap.size, 0, none⟩) n n) (w.alloc (.cells (zeroRow n) 33)) := by
  intro w
  obtain ⟨i0, h1, h2, h3, h4⟩ := info_parts infoV
  have hr := run_make (P := Tryz.prog) w 45 33 i0 _ Tryz.underlying45 h1 h2 .i64 .i64 n n (by omega) (by omega) (by rw [h4]; omega) (by omega)
  rw [h3, Int.toNat_natCast] at hr
  exact hr
theorem zeroRow_toList (n : Nat) : (zeroRow n).toList = (List.replicate n Val.zero).flatMap fun y => vcells y none 0 none 0 := by
  apply List.ext_getElem?
  intro i
  have hv : ∀ m : Nat, ((List.replicate m Val.zero).flatMap fun y => vcells y none 0 none 0).length = m * 7 := by
    intro m
    induction m with
    | zero => rfl
    | succ m ih => simp [List.replicate_succ, ih, vcells]; omega
  have key : ∀ (m i : Nat), i < m * 7 → ((List.replicate m Val.zero).flatMap fun y => vcells y none 0 none 0)[i]? = (vcells Val.zero none 0 none 0)[i % 7]? := by
    intro m
    induction m with
    | zero => intro i hi; omega
    | succ m ih =>
      intro i hi
      simp only [List.replicate_succ, List.flatMap_cons]
      rcases Nat.lt_or_ge i 7 with h | h
      · rw [List.getElem?_append_left (by simpa [vcells] using h), Nat.mod_eq_of_lt h]
      · rw [List.getElem?_append_right (by simpa [vcells] using h)]
        have h7 : (vcells Val.zero none 0 none 0).length = 7 := rfl
        rw [h7, ih (i - 7) (by omega)]
        congr 1
        omega
  rcases Nat.lt_or_ge i (n * 7) with h | h
  · rw [key n i h]
    have : i % 7 < 7 := Nat.mod_lt _ (by decide)
    simp only [zeroRow, madeCells, Array.toList_map, List.getElem?_map, Array.toList_range, List.getElem?_range h, Option.map_some]
    generalize i % 7 = j at this ⊢
    match j, this with
    | 0, _ => rfl
    | 1, _ => rfl
    | 2, _ => rfl
    | 3, _ => rfl
    | 4, _ => rfl
    | 5, _ => rfl
    | 6, _ => rfl
    | j + 7, h => omega
  · rw [List.getElem?_eq_none (by simpa [zeroRow, madeCells] using h), List.getElem?_eq_none (by rw [hv]; exact h)]
theorem OwnVs.zeros (w : World) (n d : Nat) (hd : 0 < d) (hn : n ≤ 1000000) : OwnVs (w.alloc (.cells (zeroRow n) 33)) w.heap.size (fun b => w.heap.size ≤ b) d (some ⟨w.heap.size, 0, none⟩) n (List.replicate n Val.zero) := by
  have hl : (zeroRow n).size = n * 7 := by simp [zeroRow, madeCells]
  refine ⟨(zeroRow n).toList, ⟨by simp [hl], .inr ⟨w.heap.size, n, zeroRow n, by simp, Nat.le_refl _, heap_alloc_new w _, by simp, by unfold maxLen; omega, hl, ?_⟩⟩, ?_⟩
  · rw [List.length_replicate]; exact List.take_of_length_le (by simp [hl])
  · rw [zeroRow_toList]
    exact VL.flat hd _ fun y hy => by rw [List.mem_replicate] at hy; rw [hy.2]; exact ⟨rfl, rfl, Nat.zero_le _⟩

section
variable {w w' : World} {base q c k : Nat} {av S : Nat → Prop} {A : Option Addr} {l : List (List Val)}
/-- Row k; its cells may be written. -/
theorem OwnRR.at_ (h : OwnRR w base av q A c l) (hk : k < l.length) (hl : l.length ≤ 4294967296) (hr : ∀ r ∈ l, r.length ≤ 4294967296) : ∃ (hs : List Value) (B : Option Addr) (e : Nat) (X : Nat → Prop), Own w base 45 1 A l.length c hs ∧ hs[k]? = some (.slice B l[k].length e) ∧ OwnVs w base X q B e l[k] ∧ (∀ b, X b → base ≤ b ∧ ob A ≠ some b) ∧ (∀ b, ob B = some b → ob A ≠ some b) ∧
    ∀ (w' : World) (r' : List Val), Kept (fun b => ob B ≠ some b) w w' → r'.length = l[k].length → Row w' (fun b => base ≤ b) q B r' → Rows w' (fun b => base ≤ b) q A (l.set k r') := by
  obtain ⟨hs, cut, h1, h2, h3, h4, h5⟩ := h
  obtain ⟨B, e, g1, g2, g3⟩ := h5 k l[k] (List.getElem?_eq_getElem hk)
  have hc0 : ∀ i, base ≤ cut i := fun i => Nat.le_trans h3 (h2 0 i (Nat.zero_le _))
  refine ⟨hs, B, e, _, h1, g1, g2.shift (base2 := base) (fun b hb => Nat.le_trans (hc0 k) (g2.blk hb).1) (fun b _ hb => hb), fun b hb => ⟨Nat.le_trans (hc0 k) hb.1, hb.2.2.1⟩, fun b hb => (g3 b hb).2.1, fun w' r' hkp hl' hrow => ?_⟩
  have hcap : l[k].length ≤ e := by obtain ⟨xs, ho, _⟩ := g2; exact ho.cap
  refine ⟨by rw [List.length_set]; exact hl, hs, (h1.rd.keep (hkp.mono fun b _ hb hb' => (g3 b hb').2.1 hb)).mono (fun b _ hb => (h1.blk hb).1), by rw [List.length_set]; simpa using h1.len, fun i r hi => ?_⟩
  by_cases hik : k = i
  · subst hik
    rw [List.getElem?_set_self hk] at hi
    injection hi with hi
    subst hi
    exact ⟨B, e, by rw [hl']; exact g1, by rw [hl']; exact hcap, hrow⟩
  · rw [List.getElem?_set_ne hik] at hi
    obtain ⟨Bi, ei, f1, f2, f3⟩ := h5 i r hi
    have hci : r.length ≤ ei := by obtain ⟨xs, ho, _⟩ := f2; exact ho.cap
    refine ⟨Bi, ei, f1, hci, (f2.keep (hkp.mono fun b _ hb hb' => ?_)).row (hr r (List.mem_of_getElem? hi)) (fun b hb => Nat.le_trans (hc0 i) (f2.blk hb).1) (fun b hb => Nat.le_trans (hc0 i) hb.1)⟩
    have k1 := (g2.blk hb').1
    have k2 := (g3 b hb').1
    have i12 : cut i ≤ b ∧ b < cut (i + 1) := by
      rcases hb with hb | hb
      · exact ⟨(f2.blk hb).1, (f3 b hb).1⟩
      · exact ⟨hb.1, hb.2.1⟩
    rcases Nat.lt_or_ge i k with hlt | hge
    · have := h2 (i + 1) k hlt; omega
    · have := h2 (k + 1) i (by omega); omega
/-- The first row's place takes another row. -/
theorem OwnRR.setHead (h : OwnRR w base av q A c l) {g : Nat} (hA : A = some ⟨g, 0, none⟩) (h0 : 0 < l.length) (hl : l.length ≤ 4294967296) (hr : ∀ r ∈ l, r.length ≤ 4294967296) {B' : Option Addr} {e' : Nat} {r' : List Val} (hre : r'.length ≤ e') (hrow : Row w (fun b => base ≤ b ∧ ob A ≠ some b) q B' r') :
    Rows (w.setCell ⟨g, 0, none⟩ (.slice B' r'.length e')) (fun b => base ≤ b) q A (l.set 0 r') := by
  obtain ⟨hs, cut, h1, h2, h3, h4, h5⟩ := h
  have hc0 : ∀ i, base ≤ cut i := fun i => Nat.le_trans h3 (h2 0 i (Nat.zero_le _))
  have hoA : ob A = some g := by rw [hA]; rfl
  have hkp : Kept (fun b => ob A ≠ some b) w (w.setCell ⟨g, 0, none⟩ (.slice B' r'.length e')) := Kept.of_set (fun h => h hoA)
  have hlen : hs.length = l.length := by simpa using h1.len
  refine ⟨by rw [List.length_set]; exact hl, hs.set 0 (.slice B' r'.length e'), ?_, by simpa using hlen, fun i r hi => ?_⟩
  · obtain ⟨b, o, e1, e2, e3, e4⟩ := h1.rd.some_ (by intro h; rw [h] at hlen; simp at hlen; omega)
    rw [hA] at e1
    injection e1 with e1
    injection e1 with e1 e1'
    subst e1
    subst e1'
    refine .inr ⟨g, 0, hA, (h1.blk hoA).1, by simpa [World.setCell] using e3, fun j u hj => ?_⟩
    rw [List.getElem?_set] at hj
    by_cases hj0 : 0 = j
    · subst hj0
      rw [if_pos rfl, if_pos (by omega)] at hj
      injection hj with hj
      subst hj
      cases hh : hs[0]? with
      | none => rw [List.getElem?_eq_none_iff] at hh; omega
      | some u0 => exact World.cell?_setCell_same _ _ _ (e4 0 u0 hh)
    · rw [if_neg hj0] at hj
      rw [World.cell?_setCell_other _ _ _ _ (by intro e; injection e with _ e; omega)]
      exact e4 j u hj
  · by_cases hik : 0 = i
    · subst hik
      rw [List.getElem?_set_self h0] at hi
      injection hi with hi
      subst hi
      exact ⟨B', e', by rw [List.getElem?_set_self (by omega)], hre, (hrow.keep (hkp.mono fun b _ hb => hb.2)).mono fun b _ hb => hb.1⟩
    · rw [List.getElem?_set_ne hik] at hi
      obtain ⟨Bi, ei, f1, f2, f3⟩ := h5 i r hi
      have hci : r.length ≤ ei := by obtain ⟨xs, ho, _⟩ := f2; exact ho.cap
      refine ⟨Bi, ei, by rw [List.getElem?_set_ne hik]; exact f1, hci, (f2.keep (hkp.mono fun b _ hb => ?_)).row (hr r (List.mem_of_getElem? hi)) (fun b hb => Nat.le_trans (hc0 i) (f2.blk hb).1) (fun b hb => Nat.le_trans (hc0 i) hb.1)⟩
      rcases hb with hb | hb
      · exact (f3 b hb).2.1
      · exact hb.2.2.1
theorem Rd.tail {xs : List Value} {g o n : Nat} (h : Rd w S (some ⟨g, o, none⟩) xs) : Rd w S (some ⟨g, o + n, none⟩) (xs.drop n) := by
  rcases h with h | ⟨b, o', h1, h2, h3, h4⟩
  · left; rw [h]; simp
  · injection h1 with h1
    injection h1 with h1 h1'
    subst h1
    subst h1'
    exact .inr ⟨g, o + n, rfl, h2, h3, fun j u hj => by rw [Nat.add_assoc]; exact h4 (n + j) u (by rw [List.getElem?_drop] at hj; exact hj)⟩
theorem Row.tail {r : List Val} {y : Val} {g o : Nat} (h : Row w S q (some ⟨g, o, none⟩) (y :: r)) : Row w S q (some ⟨g, o + 7, none⟩) r := by
  obtain ⟨h0, xs, h1, h2, h3⟩ := h
  simp at h0 h2
  refine ⟨by omega, xs.drop 7, h1.tail, by simp; omega, fun j z hj => ?_⟩
  have := h3 (j + 1) z (by simpa using hj)
  rw [List.drop_drop, show 7 + j * 7 = (j + 1) * 7 by omega]
  exact this
theorem Rows.tail {r : List Val} {g o : Nat} {l : List (List Val)} (h : Rows w S q (some ⟨g, o, none⟩) (r :: l)) : Rows w S q (some ⟨g, o + 1, none⟩) l := by
  obtain ⟨h0, hs, h1, h2, h3⟩ := h
  simp at h0 h2
  refine ⟨by omega, hs.drop 1, h1.tail, by simp; omega, fun j z hj => ?_⟩
  obtain ⟨B, e, g1, g2⟩ := h3 (j + 1) z (by simpa using hj)
  exact ⟨B, e, by rw [List.getElem?_drop, Nat.add_comm]; exact g1, g2⟩
theorem Row.nil : Row w S q A [] := ⟨by simp, [], Or.inl rfl, by simp, by simp⟩
theorem Rd.setc {xs : List Value} {g o : Nat} (h : Rd w S (some ⟨g, o, none⟩) xs) (i : Nat) (v : Value) : Rd (w.setCell ⟨g, o + i, none⟩ v) S (some ⟨g, o, none⟩) (xs.set i v) := by
  rcases h with h | ⟨b, o', h1, h2, h3, h4⟩
  · left; rw [h]; rfl
  · injection h1 with h1
    injection h1 with h1 h1'
    subst h1
    subst h1'
    refine .inr ⟨g, o, rfl, h2, by simpa [World.setCell] using h3, fun j u hj => ?_⟩
    rw [List.getElem?_set] at hj
    by_cases hij : i = j
    · subst hij
      rw [if_pos rfl] at hj
      by_cases hl : i < xs.length
      · rw [if_pos hl] at hj
        injection hj with hj
        subst hj
        exact World.cell?_setCell_same _ _ _ (h4 i _ (List.getElem?_eq_getElem hl))
      · rw [if_neg hl] at hj; cases hj
    · rw [if_neg hij] at hj
      rw [World.cell?_setCell_other _ _ _ _ (by intro e; injection e with _ e; omega)]
      exact h4 j u hj
theorem seg_ne (xs : List Value) (v : Value) {i j t : Nat} (h : i ≠ j) (ht : t < 7) : ((xs.set (j * 7 + t) v).drop (i * 7)).take 7 = (xs.drop (i * 7)).take 7 := by
  rw [List.drop_set]
  split
  · rfl
  · rw [List.take_set, List.set_eq_of_length_le (by simp; omega)]
theorem seg_eq (xs : List Value) (v : Value) (j t : Nat) : ((xs.set (j * 7 + t) v).drop (j * 7)).take 7 = ((xs.drop (j * 7)).take 7).set t v := by
  rw [List.drop_set, if_neg (by omega), List.take_set, Nat.add_sub_cancel_left]
theorem list7 {xs : List Value} (h : xs.length = 7) (a0 a1 a2 a3 a4 a5 a6 : Value) : ((((((xs.set 0 a0).set 1 a1).set 2 a2).set 3 a3).set 4 a4).set 5 a5).set 6 a6 = [a0, a1, a2, a3, a4, a5, a6] := by
  match xs, h with
  | [_, _, _, _, _, _, _], _ => rfl
/-- Seven cells of a row of the call's own are written. -/
theorem OwnVs.store7 {r : List Val} {X T : Nat → Prop} {g e : Nat} (h : OwnVs w base X q (some ⟨g, 0, none⟩) e r) {j : Nat} (hj : j < r.length) (hl : r.length ≤ 4294967296) {x : Val} {A1 B1 : Option Addr} {c1 e1 : Nat} (hq : 0 < q ∧ x.cols.length ≤ c1 ∧ x.rows.length ≤ e1) (hx : RV w (fun b => b ≠ g ∧ T b) (q - 1) x A1 B1) (hg : T g) (hXT : ∀ b, X b → T b)
    {w' : World} (hw : w' = ((((((w.setCell ⟨g, j * 7, none⟩ (.int .i64 x.kind)).setCell ⟨g, j * 7 + 1, none⟩ (.string x.s)).setCell ⟨g, j * 7 + 2, none⟩ (.int .i64 x.dn)).setCell ⟨g, j * 7 + 3, none⟩ (.int .i64 x.ds)).setCell ⟨g, j * 7 + 4, none⟩ (.int .i64 x.n)).setCell ⟨g, j * 7 + 5, none⟩ (.slice A1 x.cols.length c1)).setCell ⟨g, j * 7 + 6, none⟩ (.slice B1 x.rows.length e1)) :
    Row w' T q (some ⟨g, 0, none⟩) (r.set j x) ∧ Kept (fun b => b ≠ g) w w' := by
  have hk : Kept (fun b => b ≠ g) w w' := by
    rw [hw]
    iterate 7 refine Kept.set2 ?_ (by simp)
    exact Kept.refl _ _
  refine ⟨?_, hk⟩
  obtain ⟨xs, h1, h2⟩ := h
  have hlen : xs.length = r.length * 7 := h2.1
  have hrd := ((((((h1.rd.setc (j * 7) (.int .i64 x.kind)).setc (j * 7 + 1) (.string x.s)).setc (j * 7 + 2) (.int .i64 x.dn)).setc (j * 7 + 3) (.int .i64 x.ds)).setc (j * 7 + 4) (.int .i64 x.n)).setc (j * 7 + 5) (.slice A1 x.cols.length c1)).setc (j * 7 + 6) (.slice B1 x.rows.length e1)
  simp only [Nat.zero_add] at hrd
  rw [← hw] at hrd
  refine ⟨by rw [List.length_set]; exact hl, _, hrd.mono (fun b _ hb => by simp [ob] at hb; rw [← hb]; exact hg), by simp [hlen], fun i y hi => ?_⟩
  by_cases hij : j = i
  · subst hij
    rw [List.getElem?_set_self hj] at hi
    injection hi with hi
    subst hi
    have h7 : ((xs.drop (j * 7)).take 7).length = 7 := by simp; omega
    have e0 := seg_eq xs (.int .i64 x.kind) j 0
    rw [Nat.add_zero] at e0
    rw [seg_eq, seg_eq, seg_eq, seg_eq, seg_eq, seg_eq, e0, list7 h7]
    exact ⟨A1, c1, B1, e1, rfl, hq, (hx.keep (hk.mono fun b _ hb => hb.1)).mono fun b _ hb => hb.2⟩
  · rw [List.getElem?_set_ne hij] at hi
    have e0 := seg_ne xs (.int .i64 x.kind) (i := i) (j := j) (t := 0) (by omega) (by omega)
    rw [Nat.add_zero] at e0
    rw [seg_ne _ _ (by omega) (by omega), seg_ne _ _ (by omega) (by omega), seg_ne _ _ (by omega) (by omega), seg_ne _ _ (by omega) (by omega), seg_ne _ _ (by omega) (by omega), seg_ne _ _ (by omega) (by omega), e0]
    obtain ⟨A, c, B, e, f1, f2, f3⟩ := h2.2 i y hi
    exact ⟨A, c, B, e, f1, f2, (f3.keep (hk.mono fun b _ hb hb' => hb.1 (by rw [hb']; rfl))).mono fun b _ hb => hXT b hb.2⟩
end
end Go.Proofs.YtcmmkeiiapbgcaaGreatDoor
/- What the reference's Odd keeps in memory. No conditions. -/
namespace Go.Proofs.YtcmmkeiiapbgcaaGreatDoor
open Go Go.RowKit

/-- The tables that Odd is called with. -/
def OkT (t : Look) : Prop := 1 ≤ t.cols.length ∧ t.cols.length ≤ 4 ∧ t.rows.length ≤ 6 ∧ ∀ r ∈ t.rows, r.length = t.cols.length
/-- Rows of the call's own, ahead of the append of a new one. -/
def RRpush (w : World) (base : Nat) (av : Nat → Prop) (q : Nat) (A : Option Addr) (c : Nat) (l : List (List Val)) (B : Option Addr) (e : Nat) (r : List Val) : Prop :=
  ∃ (hs : List Value) (cut : Nat → Nat) (lo : Nat), Own w base 45 1 A l.length c hs ∧ (∀ i j, i ≤ j → cut i ≤ cut j) ∧ base ≤ cut 0 ∧ cut l.length ≤ lo ∧ lo ≤ w.heap.size ∧ (∀ b, ob A = some b → b < lo) ∧ (∀ b, av b → b < lo) ∧
    (∀ (i : Nat) (r : List Val), l[i]? = some r → ∃ (B : Option Addr) (e : Nat), hs[i]? = some (Value.slice B r.length e) ∧ OwnVs w (cut i) (fun b => cut i ≤ b ∧ b < cut (i + 1) ∧ ob A ≠ some b ∧ ¬ av b) q B e r ∧ ∀ b, ob B = some b → b < cut (i + 1) ∧ ob A ≠ some b ∧ ¬ av b) ∧
    OwnVs w lo (fun b => lo ≤ b) q B e r
section
variable {w w' : World} {base q c e : Nat} {av : Nat → Prop} {A B : Option Addr} {l : List (List Val)} {r : List Val}
theorem RRpush.of (h : OwnRR w base av q A c l) (hav : ∀ b, av b → b < w.heap.size) (hr : OwnVs w' w.heap.size (fun b => w.heap.size ≤ b) q B e r) (hx : Ext w w') : RRpush w' base av q A c l B e r := by
  obtain ⟨hs, cut, h1, h2, h3, h4, h5⟩ := h
  refine ⟨hs, cut, w.heap.size, h1.ext hx, h2, h3, h4, hx.size, fun b hb => (h1.blk hb).2, hav, fun i r hi => ?_, hr⟩
  obtain ⟨B, e, g1, g2, g3⟩ := h5 i r hi
  exact ⟨B, e, g1, g2.ext hx, g3⟩
theorem RRpush.ext (h : RRpush w base av q A c l B e r) (hx : Ext w w') : RRpush w' base av q A c l B e r := by
  obtain ⟨hs, cut, lo, h1, h2, h3, h4, h5, h6, h7, h8, h9⟩ := h
  refine ⟨hs, cut, lo, h1.ext hx, h2, h3, h4, Nat.le_trans h5 hx.size, h6, h7, fun i r hi => ?_, h9.ext hx⟩
  obtain ⟨B, e, g1, g2, g3⟩ := h8 i r hi
  exact ⟨B, e, g1, g2.ext hx, g3⟩
theorem RRpush.use (h : RRpush w base av q A c l B e r) : ∃ hs : List Value, Own w base 45 1 A l.length c hs ∧ ∀ (w' : World) (A' : Option Addr) (c' : Nat), Own w' base 45 1 A' (l.length + 1) c' (hs ++ [Value.slice B r.length e]) → w.grownBy w' (ob A) → (ob A' = ob A ∨ ob A' = some w.heap.size) → OwnRR w' base av q A' c' (l ++ [r]) := by
  obtain ⟨hs, cut, lo, h1, h2, h3, h4, h5, h6, h7, h8, h9⟩ := h
  exact ⟨hs, h1, fun w' A' c' ho hg hat => OwnRR.push h4 h5 h2 h3 (by simpa using h1.len) (fun b hb => ⟨(h1.blk hb).1, h6 b hb⟩) h7 h8 h9 ho hg hat⟩
end
structure OD (w : World) (q0 q1 q2 : Int) (nm : ByteArray) (Ac : Option Addr) (cc : Nat) (cols : List ByteArray) (Ar : Option Addr) (cr : Nat) (rows : List (List Val)) (wr : World) : Prop where
  ext : Ext w wr
  box : Blk wr w.heap.size 28 #[.string nm, .slice Ac cols.length cc, .slice Ar rows.length cr]
  qb : Blk wr (w.heap.size + 1) 23 #[.int .i64 q0, .int .i64 q1, .int .i64 q2]
  res : Blk wr (w.heap.size + 1 + 1) 28 #[.string ⟨#[]⟩, .slice none 0 0, .slice none 0 0]
  cols : OwnSs wr (w.heap.size + 3) Ac cc cols
  rows : OwnRR wr (w.heap.size + 3) (fun b => ob Ac = some b) 2 Ar cr rows
  sep : ∀ b, ob Ac = some b → ob Ar ≠ some b
/-- Behind the append to the rows, ahead of the store. -/
structure ODA (w : World) (q0 q1 q2 : Int) (nm : ByteArray) (Ac : Option Addr) (cc : Nat) (cols : List ByteArray) (Ar : Option Addr) (cr : Nat) (rows : List (List Val)) (wr : World) : Prop where
  ext : Ext w wr
  box : ∃ y, Blk wr w.heap.size 28 #[.string nm, .slice Ac cols.length cc, y]
  qb : Blk wr (w.heap.size + 1) 23 #[.int .i64 q0, .int .i64 q1, .int .i64 q2]
  res : Blk wr (w.heap.size + 1 + 1) 28 #[.string ⟨#[]⟩, .slice none 0 0, .slice none 0 0]
  cols : OwnSs wr (w.heap.size + 3) Ac cc cols
  rows : OwnRR wr (w.heap.size + 3) (fun b => ob Ac = some b) 2 Ar cr rows
  sep : ∀ b, ob Ac = some b → ob Ar ≠ some b
structure OF (w : World) (t : Look) (A : Option Addr) (c : Nat) (B : Option Addr) (e : Nat) (wr : World) : Prop where
  ext : Ext w wr
  box : Blk wr w.heap.size 28 #[.string t.name, .slice A t.cols.length c, .slice B t.rows.length e]
  res : Blk wr (w.heap.size + 1 + 1) 28 #[.string ⟨#[]⟩, .slice none 0 0, .slice none 0 0]
  rl : RL wr (fun b => w.heap.size + 3 ≤ b) 2 t A B
  cap : t.cols.length ≤ c ∧ t.rows.length ≤ e
section
variable {w wr wr' : World} {q0 q1 q2 : Int} {nm : ByteArray} {Ac Ar : Option Addr} {cc cr : Nat} {cols : List ByteArray} {rows : List (List Val)}
theorem OD.more (h : OD w q0 q1 q2 nm Ac cc cols Ar cr rows wr) (hx : Ext wr wr') : OD w q0 q1 q2 nm Ac cc cols Ar cr rows wr' :=
  ⟨h.ext.trans hx, h.box.keep (hx.kept _), h.qb.keep (hx.kept _), h.res.keep (hx.kept _), h.cols.ext hx, h.rows.ext hx, h.sep⟩
theorem OD.fin (h : OD w q0 q1 q2 nm Ac cc cols Ar cr rows wr) (h1 : nm.size ≤ 4294967296) (h2 : cols.length ≤ 4294967296) (h3 : rows.length ≤ 4294967296) (h4 : ∀ r ∈ rows, r.length ≤ 4294967296) : OF w ⟨nm, cols, rows⟩ Ac cc Ar cr wr :=
  ⟨h.ext, h.box, h.res, ⟨h1, h.cols.strs h2 fun b hb => (h.cols.1.blk hb).1, h.rows.rows h3 h4⟩, h.cols.1.cap, h.rows.cap⟩
/-- The table's variable is written. -/
theorem OF.of (h : OD w q0 q1 q2 nm Ac cc cols Ar cr rows wr) {t : Look} {A B : Option Addr} {c e : Nat} (ho : Only w.heap.size wr wr') (hb : Blk wr' w.heap.size 28 #[.string t.name, .slice A t.cols.length c, .slice B t.rows.length e]) (hrl : RL wr (fun b => w.heap.size + 3 ≤ b) 2 t A B) (hcap : t.cols.length ≤ c ∧ t.rows.length ≤ e) : OF w t A c B e wr' :=
  ⟨h.ext.only ho (by omega), hb, h.res.keep (ho.kept fun b _ e => by omega), hrl.keep (ho.kept fun b _ e => by omega), hcap⟩
/-- Memory beyond the three variables is written. -/
theorem OF.far (h : OD w q0 q1 q2 nm Ac cc cols Ar cr rows wr) (hk : Kept (fun b => b < w.heap.size + 3) wr wr') (hx : Ext w wr') {rows' : List (List Val)} (hl : rows'.length = rows.length) (h1 : nm.size ≤ 4294967296) (hs : Strs wr' (fun b => w.heap.size + 3 ≤ b) Ac cols) (hr : Rows wr' (fun b => w.heap.size + 3 ≤ b) 2 Ar rows') : OF w ⟨nm, cols, rows'⟩ Ac cc Ar cr wr' :=
  ⟨hx, by rw [hl]; exact h.box.keep (hk.mono fun b _ e => by omega), h.res.keep (hk.mono fun b _ e => by omega), ⟨h1, hs, hr⟩, h.cols.1.cap, by rw [hl]; exact h.rows.cap⟩
theorem OF.more {t : Look} {A B : Option Addr} {c e : Nat} (h : OF w t A c B e wr) (hx : Ext wr wr') : OF w t A c B e wr' := ⟨h.ext.trans hx, h.box.keep (hx.kept _), h.res.keep (hx.kept _), h.rl.keep (hx.kept _), h.cap⟩
theorem OD.appR (h : OD w q0 q1 q2 nm Ac cc cols Ar cr rows wr) {A4 : Option Addr} {c4 : Nat} {rows' : List (List Val)} (hg : wr.grownBy wr' (ob Ar)) (hr : OwnRR wr' (w.heap.size + 3) (fun b => ob Ac = some b) 2 A4 c4 rows') (hat : ob A4 = ob Ar ∨ ob A4 = some wr.heap.size) : ODA w q0 q1 q2 nm Ac cc cols A4 c4 rows' wr' := by
  have hlow : ∀ b, ob Ar = some b → w.heap.size + 3 ≤ b := fun b hb => (h.rows.blk hb).1
  have hkb : ∀ g, g < w.heap.size + 3 → Kept (fun b => b = g) wr wr' := fun g hg' => Kept.of_grown hg fun b hb _ e => by
    subst hb
    have := hlow _ e.symm
    omega
  refine ⟨Ext.grown h.ext hg fun b hb => by have := hlow b hb; omega, ⟨_, h.box.keep (hkb _ (by omega))⟩, h.qb.keep (hkb _ (by omega)), h.res.keep (hkb _ (by omega)), ⟨h.cols.1.keep (Kept.of_grown hg fun b hb _ e => h.sep b hb e.symm), h.cols.2⟩, hr, ?_⟩
  intro b hb hb'
  rcases hat with e | e
  · rw [e] at hb'; exact h.sep b hb hb'
  · rw [e] at hb'
    have := (h.cols.1.blk hb).2
    injection hb' with hb'
    omega
theorem ODA.store (h : ODA w q0 q1 q2 nm Ac cc cols Ar cr rows wr) : OD w q0 q1 q2 nm Ac cc cols Ar cr rows (wr.setCell ⟨w.heap.size, 2, none⟩ (.slice Ar rows.length cr)) := by
  obtain ⟨y, hy⟩ := h.box
  have ho := (Only.refl w.heap.size wr).set 2 (.slice Ar rows.length cr)
  refine ⟨h.ext.only ho (by omega), hy.set 2 _, h.qb.keep (ho.kept fun b _ e => by omega), h.res.keep (ho.kept fun b _ e => by omega), ⟨ho.own h.cols.1 (by omega), h.cols.2⟩, h.rows.keep (ho.kept fun b _ e => by omega) (fun b hb hb' => h.sep b hb' hb), h.sep⟩
/-- A column is put to the end. -/
theorem OD.appC (h : OD w q0 q1 q2 nm Ac cc cols Ar cr rows wr) {A4 : Option Addr} {c4 : Nat} {s : ByteArray} (hs : s.size ≤ 4294967296) (h1 : nm.size ≤ 4294967296) (h2 : cols.length < 4294967296) (h3 : rows.length ≤ 4294967296) (h4 : ∀ r ∈ rows, r.length ≤ 4294967296) (hg : wr.grownBy wr' (ob Ac)) (ho : Own wr' (w.heap.size + 3) 9 1 A4 (cols.length + 1) c4 (cols.map Value.string ++ [.string s])) :
    Blk wr' w.heap.size 28 #[.string nm, .slice Ac cols.length cc, .slice Ar rows.length cr] ∧ OF w ⟨nm, cols ++ [s], rows⟩ A4 c4 Ar cr (wr'.setCell ⟨w.heap.size, 1, none⟩ (.slice A4 (cols.length + 1) c4)) := by
  have hlow : ∀ b, ob Ac = some b → w.heap.size + 3 ≤ b := fun b hb => (h.cols.1.blk hb).1
  have hkb : ∀ g, g < w.heap.size + 3 → Kept (fun b => b = g) wr wr' := fun g hg' => Kept.of_grown hg fun b hb _ e => by
    subst hb
    have := hlow _ e.symm
    omega
  have hb := h.box.keep (hkb _ (by omega))
  have hon := (Only.refl w.heap.size wr').set 1 (.slice A4 (cols.length + 1) c4)
  refine ⟨hb, ⟨(Ext.grown h.ext hg fun b hb => by have := hlow b hb; omega).only hon (by omega), ?_, (h.res.keep (hkb _ (by omega))).keep (hon.kept fun b _ e => by omega), ⟨h1, ?_, ?_⟩, by simpa using ho.cap, h.rows.cap⟩⟩
  · have := hb.set 1 (.slice A4 (cols.length + 1) c4)
    simpa using this
  · have hst : Strs wr' (fun b => w.heap.size + 3 ≤ b) A4 (cols ++ [s]) := by
      refine ⟨by rw [List.map_append]; exact ho.rd.mono fun b _ hb => (ho.blk hb).1, by simp; omega, fun x hx => ?_⟩
      rcases List.mem_append.1 hx with hx | hx
      · exact h.cols.2 x hx
      · simp at hx; subst hx; exact hs
    exact hst.keep (hon.kept fun b _ e => by omega)
  · exact ((h.rows.keep (Kept.of_grown hg fun b hb _ e => hb.2 e.symm) fun b hb hb' => h.sep b hb' hb).rows h3 h4).keep (hon.kept fun b _ e => by omega)
end
theorem K3 {w : World} {g n : Nat} {u0 u1 u2 : Value} (h : g < n) : Kept (fun b => n ≤ b) w (((w.setCell ⟨g, 0, none⟩ u0).setCell ⟨g, 1, none⟩ u1).setCell ⟨g, 2, none⟩ u2) := Kept.set2 (Kept.set2 (Kept.set2 (Kept.refl _ _) (by omega)) (by omega)) (by omega)
theorem E3 {a w : World} {g : Nat} {u0 u1 u2 : Value} (h : Ext a w ∧ a.heap.size ≤ g) : Ext a (((w.setCell ⟨g, 0, none⟩ u0).setCell ⟨g, 1, none⟩ u1).setCell ⟨g, 2, none⟩ u2) := ((h.1.set2 h.2 _).set2 h.2 _).set2 h.2 _
def RetOd (w : World) (e : Ending) (w' : World) : Prop := ∃ (t : Look) (A : Option Addr) (c : Nat) (B : Option Addr) (e' : Nat), e = .returned (.agg #[.string t.name, .slice A t.cols.length c, .slice B t.rows.length e']) ∧ (t.cols.length ≤ c ∧ t.rows.length ≤ e') ∧ RL w' (Fresh w) 2 t A B ∧ Ext w w'

set_option maxRecDepth 100000 in
set_option maxHeartbeats 4000000 in
theorem odd_0_0 (t : Look) (A B : Option Addr) (c e : Nat) (q0 q1 q2 : Int) (w : World) (S : Nat → Prop) (h : RL w S 2 t A B) (ht : OkT t) (hm : (q0.tmod 8 + 8) % 8 = 0) (hj : (q1.tmod 4 + 4) % 4 = 0) : Calls Tryz.prog 11 #[(.agg #[.string t.name, .slice A t.cols.length c, .slice B t.rows.length e]), .agg #[.int .i64 q0, .int .i64 q1, .int .i64 q2]] w (RetOd w) := by
  have H := Lib.hid h
  obtain ⟨ht1, ht2, ht3, ht4⟩ := ht
  have HT4 := Lib.hid ht4
  obtain ⟨hb1, hb2⟩ := next_bd q0 8 (by omega)
  have hnm := h.1
  clear h ht4
  obtain ⟨W0, hW0⟩ : ∃ W0, W0 = ((w.alloc (.cells #[.string t.name, .slice A t.cols.length c, .slice B t.rows.length e] 28)).alloc (.cells #[.int .i64 q0, .int .i64 q1, .int .i64 q2] 23)).alloc (.cells #[.string ⟨#[]⟩, .slice none 0 0, .slice none 0 0] 28) := ⟨_, rfl⟩
  have HW0 := Lib.hid hW0
  have hx0 : Ext w W0 := by rw [hW0]; exact (((Ext.refl w).alloc _).alloc _).alloc _
  have b0 : Blk W0 w.heap.size 28 #[.string t.name, .slice A t.cols.length c, .slice B t.rows.length e] := by rw [hW0]; exact ((Blk.new _ _ _).keep (Kept.alloc _ _ _)).keep (Kept.alloc _ _ _)
  have b1 : Blk W0 (w.heap.size + 1) 23 #[.int .i64 q0, .int .i64 q1, .int .i64 q2] := by
    rw [hW0]
    have := (Blk.new (w.alloc (.cells #[.string t.name, .slice A t.cols.length c, .slice B t.rows.length e] 28)) 23 #[.int .i64 q0, .int .i64 q1, .int .i64 q2]).keep (Kept.alloc _ _ (.cells #[.string ⟨#[]⟩, .slice none 0 0, .slice none 0 0] 28))
    simpa using this
  have b2 : Blk W0 (w.heap.size + 1 + 1) 28 #[.string ⟨#[]⟩, .slice none 0 0, .slice none 0 0] := by
    rw [hW0]
    have := Blk.new ((w.alloc (.cells #[.string t.name, .slice A t.cols.length c, .slice B t.rows.length e] 28)).alloc (.cells #[.int .i64 q0, .int .i64 q1, .int .i64 q2] 23)) 28 #[.string ⟨#[]⟩, .slice none 0 0, .slice none 0 0]
    simpa using this
  have hs0 : W0.heap.size = w.heap.size + 3 := by rw [hW0]; simp
  have HX0 := Lib.hid hx0
  have HB0 := Lib.hid b0
  have HB1 := Lib.hid b1
  have HB2 := Lib.hid b2
  have HS0 := Lib.hid hs0
  clear hW0 hx0 b0 b1 b2 hs0
  go_enter Tryz.func11, Tryz.ntmps11
  go_wp2_with fail
  rw [← HW0.out]
  refine (r09_Copy 2 t A B c e W0 S (H.out.keep (HX0.out.kept S))).mono ?_
  rintro e1 w1 ⟨Ac, cc, Ar, cr, rfl, hoc, hor, hsep, hx1⟩
  rw [HS0.out] at hoc hor
  have HM1 := Lib.hid (show OD w q0 q1 q2 t.name Ac cc t.cols Ar cr t.rows (((w1.setCell ⟨w.heap.size, 0, none⟩ (.string t.name)).setCell ⟨w.heap.size, 1, none⟩ (.slice Ac t.cols.length cc)).setCell ⟨w.heap.size, 2, none⟩ (.slice Ar t.rows.length cr)) by
    have ho := (((Only.refl w.heap.size w1).set 0 (.string t.name)).set 1 (.slice Ac t.cols.length cc)).set 2 (.slice Ar t.rows.length cr)
    refine ⟨(HX0.out.trans hx1).only ho (by omega), ?_, (HB1.out.keep (hx1.kept _)).keep (ho.kept fun b _ e => by omega), (HB2.out.keep (hx1.kept _)).keep (ho.kept fun b _ e => by omega), ⟨ho.own hoc.1 (by omega), hoc.2⟩, hor.keep (ho.kept fun b _ e => by omega) (fun b hb hb' => hsep b hb' hb), hsep⟩
    have := (((HB0.out.keep (hx1.kept _)).set 0 (.string t.name)).set 1 (.slice Ac t.cols.length cc)).set 2 (.slice Ar t.rows.length cr)
    simpa using this)
  have q5 := HB0.out.keep (hx1.kept _)
  have k50 := q5.cell (i := 0) rfl
  have k51 := q5.cell (i := 1) rfl
  have k52 := q5.cell (i := 2) rfl
  have kf := q5.frozen
  have kz := q5.lt
  clear hoc hor hsep hx1 q5 HX0 HB0 HB1 HB2 HS0 HW0
  go_upto_region 2 with fail
  obtain ⟨w2, hw2⟩ : ∃ w2, w2 = (((w1.setCell ⟨w.heap.size, 0, none⟩ (.string t.name)).setCell ⟨w.heap.size, 1, none⟩ (.slice Ac t.cols.length cc)).setCell ⟨w.heap.size, 2, none⟩ (.slice Ar t.rows.length cr)) := ⟨_, rfl⟩
  rw [← hw2] at HM1
  rw [← hw2]
  clear hw2 k50 k51 k52 kf kz
  obtain ⟨cols, hcols⟩ : ∃ cols, cols = t.cols := ⟨_, rfl⟩
  obtain ⟨rows, hrows⟩ : ∃ rows, rows = t.rows := ⟨_, rfl⟩
  obtain ⟨nm, hnmE⟩ : ∃ nm, nm = t.name := ⟨_, rfl⟩
  rw [← hcols, ← hrows, ← hnmE] at HM1
  rw [← hcols] at ht1 ht2 HT4
  rw [← hrows] at ht3 HT4
  rw [← hnmE] at hnm
  clear hcols hrows hnmE
  have HM := HM1
  have d0 := HM1.out.box.cell (i := 0) rfl
  have d1 := HM1.out.box.cell (i := 1) rfl
  have d2 := HM1.out.box.cell (i := 2) rfl
  have df := HM1.out.box.frozen
  have dz := HM1.out.box.lt
  have g0 := HM1.out.qb.cell (i := 0) rfl
  have g1 := HM1.out.qb.cell (i := 1) rfl
  have g2 := HM1.out.qb.cell (i := 2) rfl
  have gz := HM1.out.qb.lt
  have HR4 := Lib.hid (show ∀ r ∈ rows, r.length ≤ 4294967296 from fun r hr => by rw [HT4.out r hr]; omega)
  obtain ⟨hc1, hc2⟩ := next_bd q1 4 (by omega)
  go_upto_region 27 with fail
  obtain ⟨wf, hwf⟩ : ∃ wf, wf = ((w2.setCell ⟨w.heap.size, 0, none⟩ (.string ⟨#[]⟩)).alloc (.cells #[.string ⟨#[]⟩, .string ⟨#[111, 116, 104, 101, 114]⟩, .string ⟨#[49, 120]⟩, .string ⟨#[116, 119, 111, 32, 119, 111, 114, 100, 115]⟩] 9)) := ⟨_, rfl⟩
  have HF := Lib.hid (show ∃ (t : Look) (A : Option Addr) (c : Nat) (B : Option Addr) (e : Nat), OF w t A c B e wf by rw [hwf]; exact ⟨⟨⟨#[]⟩, cols, rows⟩, Ac, cc, Ar, cr, OF.more (OF.of HM.out ((Only.refl w.heap.size w2).set 0 (.string ⟨#[]⟩)) (by have := HM.out.box.set 0 (.string ⟨#[]⟩); simpa using this) ⟨(show (⟨#[]⟩ : ByteArray).size ≤ 4294967296 by decide), HM.out.cols.strs (by omega) fun b hb => (HM.out.cols.1.blk hb).1, HM.out.rows.rows (by omega) HR4.out⟩ ⟨HM.out.cols.1.cap, HM.out.rows.cap⟩) ((Ext.refl _).alloc _)⟩)
  rw [← hwf]
  clear hwf
  obtain ⟨t', A', c', B', e', hf⟩ := HF.out
  have HF := Lib.hid hf
  have f0 := hf.box.cell (i := 0) rfl
  have f1 := hf.box.cell (i := 1) rfl
  have f2 := hf.box.cell (i := 2) rfl
  have r0 := hf.res.cell (i := 0) rfl
  have r1 := hf.res.cell (i := 1) rfl
  have r2 := hf.res.cell (i := 2) rfl
  have rf := hf.res.frozen
  have rz := hf.res.lt
  clear hf d0 d1 d2 df dz g0 g1 g2 gz
  go_wp2
  all_goals refine bodyPost_ret (v := (.agg #[.string t'.name, .slice A' t'.cols.length c', .slice B' t'.rows.length e'])) (by simp [results, Tryz.results11, go_sem, r0, r1, r2, rf, rz]) rfl ⟨t', A', c', B', e', rfl, HF.out.cap, RL.mono (RL.keep HF.out.rl (K3 ?_)) fun b _ hb => by unfold Fresh; omega, E3 ?_⟩
  all_goals first | exact ⟨HF.out.ext, by omega⟩ | omega

set_option maxRecDepth 100000 in
set_option maxHeartbeats 4000000 in
theorem odd_0_1 (t : Look) (A B : Option Addr) (c e : Nat) (q0 q1 q2 : Int) (w : World) (S : Nat → Prop) (h : RL w S 2 t A B) (ht : OkT t) (hm : (q0.tmod 8 + 8) % 8 = 0) (hj : (q1.tmod 4 + 4) % 4 = 1) : Calls Tryz.prog 11 #[(.agg #[.string t.name, .slice A t.cols.length c, .slice B t.rows.length e]), .agg #[.int .i64 q0, .int .i64 q1, .int .i64 q2]] w (RetOd w) := by
  have H := Lib.hid h
  obtain ⟨ht1, ht2, ht3, ht4⟩ := ht
  have HT4 := Lib.hid ht4
  obtain ⟨hb1, hb2⟩ := next_bd q0 8 (by omega)
  have hnm := h.1
  clear h ht4
  obtain ⟨W0, hW0⟩ : ∃ W0, W0 = ((w.alloc (.cells #[.string t.name, .slice A t.cols.length c, .slice B t.rows.length e] 28)).alloc (.cells #[.int .i64 q0, .int .i64 q1, .int .i64 q2] 23)).alloc (.cells #[.string ⟨#[]⟩, .slice none 0 0, .slice none 0 0] 28) := ⟨_, rfl⟩
  have HW0 := Lib.hid hW0
  have hx0 : Ext w W0 := by rw [hW0]; exact (((Ext.refl w).alloc _).alloc _).alloc _
  have b0 : Blk W0 w.heap.size 28 #[.string t.name, .slice A t.cols.length c, .slice B t.rows.length e] := by rw [hW0]; exact ((Blk.new _ _ _).keep (Kept.alloc _ _ _)).keep (Kept.alloc _ _ _)
  have b1 : Blk W0 (w.heap.size + 1) 23 #[.int .i64 q0, .int .i64 q1, .int .i64 q2] := by
    rw [hW0]
    have := (Blk.new (w.alloc (.cells #[.string t.name, .slice A t.cols.length c, .slice B t.rows.length e] 28)) 23 #[.int .i64 q0, .int .i64 q1, .int .i64 q2]).keep (Kept.alloc _ _ (.cells #[.string ⟨#[]⟩, .slice none 0 0, .slice none 0 0] 28))
    simpa using this
  have b2 : Blk W0 (w.heap.size + 1 + 1) 28 #[.string ⟨#[]⟩, .slice none 0 0, .slice none 0 0] := by
    rw [hW0]
    have := Blk.new ((w.alloc (.cells #[.string t.name, .slice A t.cols.length c, .slice B t.rows.length e] 28)).alloc (.cells #[.int .i64 q0, .int .i64 q1, .int .i64 q2] 23)) 28 #[.string ⟨#[]⟩, .slice none 0 0, .slice none 0 0]
    simpa using this
  have hs0 : W0.heap.size = w.heap.size + 3 := by rw [hW0]; simp
  have HX0 := Lib.hid hx0
  have HB0 := Lib.hid b0
  have HB1 := Lib.hid b1
  have HB2 := Lib.hid b2
  have HS0 := Lib.hid hs0
  clear hW0 hx0 b0 b1 b2 hs0
  go_enter Tryz.func11, Tryz.ntmps11
  go_wp2_with fail
  rw [← HW0.out]
  refine (r09_Copy 2 t A B c e W0 S (H.out.keep (HX0.out.kept S))).mono ?_
  rintro e1 w1 ⟨Ac, cc, Ar, cr, rfl, hoc, hor, hsep, hx1⟩
  rw [HS0.out] at hoc hor
  have HM1 := Lib.hid (show OD w q0 q1 q2 t.name Ac cc t.cols Ar cr t.rows (((w1.setCell ⟨w.heap.size, 0, none⟩ (.string t.name)).setCell ⟨w.heap.size, 1, none⟩ (.slice Ac t.cols.length cc)).setCell ⟨w.heap.size, 2, none⟩ (.slice Ar t.rows.length cr)) by
    have ho := (((Only.refl w.heap.size w1).set 0 (.string t.name)).set 1 (.slice Ac t.cols.length cc)).set 2 (.slice Ar t.rows.length cr)
    refine ⟨(HX0.out.trans hx1).only ho (by omega), ?_, (HB1.out.keep (hx1.kept _)).keep (ho.kept fun b _ e => by omega), (HB2.out.keep (hx1.kept _)).keep (ho.kept fun b _ e => by omega), ⟨ho.own hoc.1 (by omega), hoc.2⟩, hor.keep (ho.kept fun b _ e => by omega) (fun b hb hb' => hsep b hb' hb), hsep⟩
    have := (((HB0.out.keep (hx1.kept _)).set 0 (.string t.name)).set 1 (.slice Ac t.cols.length cc)).set 2 (.slice Ar t.rows.length cr)
    simpa using this)
  have q5 := HB0.out.keep (hx1.kept _)
  have k50 := q5.cell (i := 0) rfl
  have k51 := q5.cell (i := 1) rfl
  have k52 := q5.cell (i := 2) rfl
  have kf := q5.frozen
  have kz := q5.lt
  clear hoc hor hsep hx1 q5 HX0 HB0 HB1 HB2 HS0 HW0
  go_upto_region 2 with fail
  obtain ⟨w2, hw2⟩ : ∃ w2, w2 = (((w1.setCell ⟨w.heap.size, 0, none⟩ (.string t.name)).setCell ⟨w.heap.size, 1, none⟩ (.slice Ac t.cols.length cc)).setCell ⟨w.heap.size, 2, none⟩ (.slice Ar t.rows.length cr)) := ⟨_, rfl⟩
  rw [← hw2] at HM1
  rw [← hw2]
  clear hw2 k50 k51 k52 kf kz
  obtain ⟨cols, hcols⟩ : ∃ cols, cols = t.cols := ⟨_, rfl⟩
  obtain ⟨rows, hrows⟩ : ∃ rows, rows = t.rows := ⟨_, rfl⟩
  obtain ⟨nm, hnmE⟩ : ∃ nm, nm = t.name := ⟨_, rfl⟩
  rw [← hcols, ← hrows, ← hnmE] at HM1
  rw [← hcols] at ht1 ht2 HT4
  rw [← hrows] at ht3 HT4
  rw [← hnmE] at hnm
  clear hcols hrows hnmE
  have HM := HM1
  have d0 := HM1.out.box.cell (i := 0) rfl
  have d1 := HM1.out.box.cell (i := 1) rfl
  have d2 := HM1.out.box.cell (i := 2) rfl
  have df := HM1.out.box.frozen
  have dz := HM1.out.box.lt
  have g0 := HM1.out.qb.cell (i := 0) rfl
  have g1 := HM1.out.qb.cell (i := 1) rfl
  have g2 := HM1.out.qb.cell (i := 2) rfl
  have gz := HM1.out.qb.lt
  have HR4 := Lib.hid (show ∀ r ∈ rows, r.length ≤ 4294967296 from fun r hr => by rw [HT4.out r hr]; omega)
  obtain ⟨hc1, hc2⟩ := next_bd q1 4 (by omega)
  go_upto_region 27 with fail
  obtain ⟨wf, hwf⟩ : ∃ wf, wf = ((w2.setCell ⟨w.heap.size, 0, none⟩ (.string ⟨#[111, 116, 104, 101, 114]⟩)).alloc (.cells #[.string ⟨#[]⟩, .string ⟨#[111, 116, 104, 101, 114]⟩, .string ⟨#[49, 120]⟩, .string ⟨#[116, 119, 111, 32, 119, 111, 114, 100, 115]⟩] 9)) := ⟨_, rfl⟩
  have HF := Lib.hid (show ∃ (t : Look) (A : Option Addr) (c : Nat) (B : Option Addr) (e : Nat), OF w t A c B e wf by rw [hwf]; exact ⟨⟨⟨#[111, 116, 104, 101, 114]⟩, cols, rows⟩, Ac, cc, Ar, cr, OF.more (OF.of HM.out ((Only.refl w.heap.size w2).set 0 (.string ⟨#[111, 116, 104, 101, 114]⟩)) (by have := HM.out.box.set 0 (.string ⟨#[111, 116, 104, 101, 114]⟩); simpa using this) ⟨(show (⟨#[111, 116, 104, 101, 114]⟩ : ByteArray).size ≤ 4294967296 by decide), HM.out.cols.strs (by omega) fun b hb => (HM.out.cols.1.blk hb).1, HM.out.rows.rows (by omega) HR4.out⟩ ⟨HM.out.cols.1.cap, HM.out.rows.cap⟩) ((Ext.refl _).alloc _)⟩)
  rw [← hwf]
  clear hwf
  obtain ⟨t', A', c', B', e', hf⟩ := HF.out
  have HF := Lib.hid hf
  have f0 := hf.box.cell (i := 0) rfl
  have f1 := hf.box.cell (i := 1) rfl
  have f2 := hf.box.cell (i := 2) rfl
  have r0 := hf.res.cell (i := 0) rfl
  have r1 := hf.res.cell (i := 1) rfl
  have r2 := hf.res.cell (i := 2) rfl
  have rf := hf.res.frozen
  have rz := hf.res.lt
  clear hf d0 d1 d2 df dz g0 g1 g2 gz
  go_wp2
  all_goals refine bodyPost_ret (v := (.agg #[.string t'.name, .slice A' t'.cols.length c', .slice B' t'.rows.length e'])) (by simp [results, Tryz.results11, go_sem, r0, r1, r2, rf, rz]) rfl ⟨t', A', c', B', e', rfl, HF.out.cap, RL.mono (RL.keep HF.out.rl (K3 ?_)) fun b _ hb => by unfold Fresh; omega, E3 ?_⟩
  all_goals first | exact ⟨HF.out.ext, by omega⟩ | omega

set_option maxRecDepth 100000 in
set_option maxHeartbeats 4000000 in
theorem odd_0_2 (t : Look) (A B : Option Addr) (c e : Nat) (q0 q1 q2 : Int) (w : World) (S : Nat → Prop) (h : RL w S 2 t A B) (ht : OkT t) (hm : (q0.tmod 8 + 8) % 8 = 0) (hj : (q1.tmod 4 + 4) % 4 = 2) : Calls Tryz.prog 11 #[(.agg #[.string t.name, .slice A t.cols.length c, .slice B t.rows.length e]), .agg #[.int .i64 q0, .int .i64 q1, .int .i64 q2]] w (RetOd w) := by
  have H := Lib.hid h
  obtain ⟨ht1, ht2, ht3, ht4⟩ := ht
  have HT4 := Lib.hid ht4
  obtain ⟨hb1, hb2⟩ := next_bd q0 8 (by omega)
  have hnm := h.1
  clear h ht4
  obtain ⟨W0, hW0⟩ : ∃ W0, W0 = ((w.alloc (.cells #[.string t.name, .slice A t.cols.length c, .slice B t.rows.length e] 28)).alloc (.cells #[.int .i64 q0, .int .i64 q1, .int .i64 q2] 23)).alloc (.cells #[.string ⟨#[]⟩, .slice none 0 0, .slice none 0 0] 28) := ⟨_, rfl⟩
  have HW0 := Lib.hid hW0
  have hx0 : Ext w W0 := by rw [hW0]; exact (((Ext.refl w).alloc _).alloc _).alloc _
  have b0 : Blk W0 w.heap.size 28 #[.string t.name, .slice A t.cols.length c, .slice B t.rows.length e] := by rw [hW0]; exact ((Blk.new _ _ _).keep (Kept.alloc _ _ _)).keep (Kept.alloc _ _ _)
  have b1 : Blk W0 (w.heap.size + 1) 23 #[.int .i64 q0, .int .i64 q1, .int .i64 q2] := by
    rw [hW0]
    have := (Blk.new (w.alloc (.cells #[.string t.name, .slice A t.cols.length c, .slice B t.rows.length e] 28)) 23 #[.int .i64 q0, .int .i64 q1, .int .i64 q2]).keep (Kept.alloc _ _ (.cells #[.string ⟨#[]⟩, .slice none 0 0, .slice none 0 0] 28))
    simpa using this
  have b2 : Blk W0 (w.heap.size + 1 + 1) 28 #[.string ⟨#[]⟩, .slice none 0 0, .slice none 0 0] := by
    rw [hW0]
    have := Blk.new ((w.alloc (.cells #[.string t.name, .slice A t.cols.length c, .slice B t.rows.length e] 28)).alloc (.cells #[.int .i64 q0, .int .i64 q1, .int .i64 q2] 23)) 28 #[.string ⟨#[]⟩, .slice none 0 0, .slice none 0 0]
    simpa using this
  have hs0 : W0.heap.size = w.heap.size + 3 := by rw [hW0]; simp
  have HX0 := Lib.hid hx0
  have HB0 := Lib.hid b0
  have HB1 := Lib.hid b1
  have HB2 := Lib.hid b2
  have HS0 := Lib.hid hs0
  clear hW0 hx0 b0 b1 b2 hs0
  go_enter Tryz.func11, Tryz.ntmps11
  go_wp2_with fail
  rw [← HW0.out]
  refine (r09_Copy 2 t A B c e W0 S (H.out.keep (HX0.out.kept S))).mono ?_
  rintro e1 w1 ⟨Ac, cc, Ar, cr, rfl, hoc, hor, hsep, hx1⟩
  rw [HS0.out] at hoc hor
  have HM1 := Lib.hid (show OD w q0 q1 q2 t.name Ac cc t.cols Ar cr t.rows (((w1.setCell ⟨w.heap.size, 0, none⟩ (.string t.name)).setCell ⟨w.heap.size, 1, none⟩ (.slice Ac t.cols.length cc)).setCell ⟨w.heap.size, 2, none⟩ (.slice Ar t.rows.length cr)) by
    have ho := (((Only.refl w.heap.size w1).set 0 (.string t.name)).set 1 (.slice Ac t.cols.length cc)).set 2 (.slice Ar t.rows.length cr)
    refine ⟨(HX0.out.trans hx1).only ho (by omega), ?_, (HB1.out.keep (hx1.kept _)).keep (ho.kept fun b _ e => by omega), (HB2.out.keep (hx1.kept _)).keep (ho.kept fun b _ e => by omega), ⟨ho.own hoc.1 (by omega), hoc.2⟩, hor.keep (ho.kept fun b _ e => by omega) (fun b hb hb' => hsep b hb' hb), hsep⟩
    have := (((HB0.out.keep (hx1.kept _)).set 0 (.string t.name)).set 1 (.slice Ac t.cols.length cc)).set 2 (.slice Ar t.rows.length cr)
    simpa using this)
  have q5 := HB0.out.keep (hx1.kept _)
  have k50 := q5.cell (i := 0) rfl
  have k51 := q5.cell (i := 1) rfl
  have k52 := q5.cell (i := 2) rfl
  have kf := q5.frozen
  have kz := q5.lt
  clear hoc hor hsep hx1 q5 HX0 HB0 HB1 HB2 HS0 HW0
  go_upto_region 2 with fail
  obtain ⟨w2, hw2⟩ : ∃ w2, w2 = (((w1.setCell ⟨w.heap.size, 0, none⟩ (.string t.name)).setCell ⟨w.heap.size, 1, none⟩ (.slice Ac t.cols.length cc)).setCell ⟨w.heap.size, 2, none⟩ (.slice Ar t.rows.length cr)) := ⟨_, rfl⟩
  rw [← hw2] at HM1
  rw [← hw2]
  clear hw2 k50 k51 k52 kf kz
  obtain ⟨cols, hcols⟩ : ∃ cols, cols = t.cols := ⟨_, rfl⟩
  obtain ⟨rows, hrows⟩ : ∃ rows, rows = t.rows := ⟨_, rfl⟩
  obtain ⟨nm, hnmE⟩ : ∃ nm, nm = t.name := ⟨_, rfl⟩
  rw [← hcols, ← hrows, ← hnmE] at HM1
  rw [← hcols] at ht1 ht2 HT4
  rw [← hrows] at ht3 HT4
  rw [← hnmE] at hnm
  clear hcols hrows hnmE
  have HM := HM1
  have d0 := HM1.out.box.cell (i := 0) rfl
  have d1 := HM1.out.box.cell (i := 1) rfl
  have d2 := HM1.out.box.cell (i := 2) rfl
  have df := HM1.out.box.frozen
  have dz := HM1.out.box.lt
  have g0 := HM1.out.qb.cell (i := 0) rfl
  have g1 := HM1.out.qb.cell (i := 1) rfl
  have g2 := HM1.out.qb.cell (i := 2) rfl
  have gz := HM1.out.qb.lt
  have HR4 := Lib.hid (show ∀ r ∈ rows, r.length ≤ 4294967296 from fun r hr => by rw [HT4.out r hr]; omega)
  obtain ⟨hc1, hc2⟩ := next_bd q1 4 (by omega)
  go_upto_region 27 with fail
  obtain ⟨wf, hwf⟩ : ∃ wf, wf = ((w2.setCell ⟨w.heap.size, 0, none⟩ (.string ⟨#[49, 120]⟩)).alloc (.cells #[.string ⟨#[]⟩, .string ⟨#[111, 116, 104, 101, 114]⟩, .string ⟨#[49, 120]⟩, .string ⟨#[116, 119, 111, 32, 119, 111, 114, 100, 115]⟩] 9)) := ⟨_, rfl⟩
  have HF := Lib.hid (show ∃ (t : Look) (A : Option Addr) (c : Nat) (B : Option Addr) (e : Nat), OF w t A c B e wf by rw [hwf]; exact ⟨⟨⟨#[49, 120]⟩, cols, rows⟩, Ac, cc, Ar, cr, OF.more (OF.of HM.out ((Only.refl w.heap.size w2).set 0 (.string ⟨#[49, 120]⟩)) (by have := HM.out.box.set 0 (.string ⟨#[49, 120]⟩); simpa using this) ⟨(show (⟨#[49, 120]⟩ : ByteArray).size ≤ 4294967296 by decide), HM.out.cols.strs (by omega) fun b hb => (HM.out.cols.1.blk hb).1, HM.out.rows.rows (by omega) HR4.out⟩ ⟨HM.out.cols.1.cap, HM.out.rows.cap⟩) ((Ext.refl _).alloc _)⟩)
  rw [← hwf]
  clear hwf
  obtain ⟨t', A', c', B', e', hf⟩ := HF.out
  have HF := Lib.hid hf
  have f0 := hf.box.cell (i := 0) rfl
  have f1 := hf.box.cell (i := 1) rfl
  have f2 := hf.box.cell (i := 2) rfl
  have r0 := hf.res.cell (i := 0) rfl
  have r1 := hf.res.cell (i := 1) rfl
  have r2 := hf.res.cell (i := 2) rfl
  have rf := hf.res.frozen
  have rz := hf.res.lt
  clear hf d0 d1 d2 df dz g0 g1 g2 gz
  go_wp2
  all_goals refine bodyPost_ret (v := (.agg #[.string t'.name, .slice A' t'.cols.length c', .slice B' t'.rows.length e'])) (by simp [results, Tryz.results11, go_sem, r0, r1, r2, rf, rz]) rfl ⟨t', A', c', B', e', rfl, HF.out.cap, RL.mono (RL.keep HF.out.rl (K3 ?_)) fun b _ hb => by unfold Fresh; omega, E3 ?_⟩
  all_goals first | exact ⟨HF.out.ext, by omega⟩ | omega

set_option maxRecDepth 100000 in
set_option maxHeartbeats 4000000 in
theorem odd_0_3 (t : Look) (A B : Option Addr) (c e : Nat) (q0 q1 q2 : Int) (w : World) (S : Nat → Prop) (h : RL w S 2 t A B) (ht : OkT t) (hm : (q0.tmod 8 + 8) % 8 = 0) (hj : (q1.tmod 4 + 4) % 4 = 3) : Calls Tryz.prog 11 #[(.agg #[.string t.name, .slice A t.cols.length c, .slice B t.rows.length e]), .agg #[.int .i64 q0, .int .i64 q1, .int .i64 q2]] w (RetOd w) := by
  have H := Lib.hid h
  obtain ⟨ht1, ht2, ht3, ht4⟩ := ht
  have HT4 := Lib.hid ht4
  obtain ⟨hb1, hb2⟩ := next_bd q0 8 (by omega)
  have hnm := h.1
  clear h ht4
  obtain ⟨W0, hW0⟩ : ∃ W0, W0 = ((w.alloc (.cells #[.string t.name, .slice A t.cols.length c, .slice B t.rows.length e] 28)).alloc (.cells #[.int .i64 q0, .int .i64 q1, .int .i64 q2] 23)).alloc (.cells #[.string ⟨#[]⟩, .slice none 0 0, .slice none 0 0] 28) := ⟨_, rfl⟩
  have HW0 := Lib.hid hW0
  have hx0 : Ext w W0 := by rw [hW0]; exact (((Ext.refl w).alloc _).alloc _).alloc _
  have b0 : Blk W0 w.heap.size 28 #[.string t.name, .slice A t.cols.length c, .slice B t.rows.length e] := by rw [hW0]; exact ((Blk.new _ _ _).keep (Kept.alloc _ _ _)).keep (Kept.alloc _ _ _)
  have b1 : Blk W0 (w.heap.size + 1) 23 #[.int .i64 q0, .int .i64 q1, .int .i64 q2] := by
    rw [hW0]
    have := (Blk.new (w.alloc (.cells #[.string t.name, .slice A t.cols.length c, .slice B t.rows.length e] 28)) 23 #[.int .i64 q0, .int .i64 q1, .int .i64 q2]).keep (Kept.alloc _ _ (.cells #[.string ⟨#[]⟩, .slice none 0 0, .slice none 0 0] 28))
    simpa using this
  have b2 : Blk W0 (w.heap.size + 1 + 1) 28 #[.string ⟨#[]⟩, .slice none 0 0, .slice none 0 0] := by
    rw [hW0]
    have := Blk.new ((w.alloc (.cells #[.string t.name, .slice A t.cols.length c, .slice B t.rows.length e] 28)).alloc (.cells #[.int .i64 q0, .int .i64 q1, .int .i64 q2] 23)) 28 #[.string ⟨#[]⟩, .slice none 0 0, .slice none 0 0]
    simpa using this
  have hs0 : W0.heap.size = w.heap.size + 3 := by rw [hW0]; simp
  have HX0 := Lib.hid hx0
  have HB0 := Lib.hid b0
  have HB1 := Lib.hid b1
  have HB2 := Lib.hid b2
  have HS0 := Lib.hid hs0
  clear hW0 hx0 b0 b1 b2 hs0
  go_enter Tryz.func11, Tryz.ntmps11
  go_wp2_with fail
  rw [← HW0.out]
  refine (r09_Copy 2 t A B c e W0 S (H.out.keep (HX0.out.kept S))).mono ?_
  rintro e1 w1 ⟨Ac, cc, Ar, cr, rfl, hoc, hor, hsep, hx1⟩
  rw [HS0.out] at hoc hor
  have HM1 := Lib.hid (show OD w q0 q1 q2 t.name Ac cc t.cols Ar cr t.rows (((w1.setCell ⟨w.heap.size, 0, none⟩ (.string t.name)).setCell ⟨w.heap.size, 1, none⟩ (.slice Ac t.cols.length cc)).setCell ⟨w.heap.size, 2, none⟩ (.slice Ar t.rows.length cr)) by
    have ho := (((Only.refl w.heap.size w1).set 0 (.string t.name)).set 1 (.slice Ac t.cols.length cc)).set 2 (.slice Ar t.rows.length cr)
    refine ⟨(HX0.out.trans hx1).only ho (by omega), ?_, (HB1.out.keep (hx1.kept _)).keep (ho.kept fun b _ e => by omega), (HB2.out.keep (hx1.kept _)).keep (ho.kept fun b _ e => by omega), ⟨ho.own hoc.1 (by omega), hoc.2⟩, hor.keep (ho.kept fun b _ e => by omega) (fun b hb hb' => hsep b hb' hb), hsep⟩
    have := (((HB0.out.keep (hx1.kept _)).set 0 (.string t.name)).set 1 (.slice Ac t.cols.length cc)).set 2 (.slice Ar t.rows.length cr)
    simpa using this)
  have q5 := HB0.out.keep (hx1.kept _)
  have k50 := q5.cell (i := 0) rfl
  have k51 := q5.cell (i := 1) rfl
  have k52 := q5.cell (i := 2) rfl
  have kf := q5.frozen
  have kz := q5.lt
  clear hoc hor hsep hx1 q5 HX0 HB0 HB1 HB2 HS0 HW0
  go_upto_region 2 with fail
  obtain ⟨w2, hw2⟩ : ∃ w2, w2 = (((w1.setCell ⟨w.heap.size, 0, none⟩ (.string t.name)).setCell ⟨w.heap.size, 1, none⟩ (.slice Ac t.cols.length cc)).setCell ⟨w.heap.size, 2, none⟩ (.slice Ar t.rows.length cr)) := ⟨_, rfl⟩
  rw [← hw2] at HM1
  rw [← hw2]
  clear hw2 k50 k51 k52 kf kz
  obtain ⟨cols, hcols⟩ : ∃ cols, cols = t.cols := ⟨_, rfl⟩
  obtain ⟨rows, hrows⟩ : ∃ rows, rows = t.rows := ⟨_, rfl⟩
  obtain ⟨nm, hnmE⟩ : ∃ nm, nm = t.name := ⟨_, rfl⟩
  rw [← hcols, ← hrows, ← hnmE] at HM1
  rw [← hcols] at ht1 ht2 HT4
  rw [← hrows] at ht3 HT4
  rw [← hnmE] at hnm
  clear hcols hrows hnmE
  have HM := HM1
  have d0 := HM1.out.box.cell (i := 0) rfl
  have d1 := HM1.out.box.cell (i := 1) rfl
  have d2 := HM1.out.box.cell (i := 2) rfl
  have df := HM1.out.box.frozen
  have dz := HM1.out.box.lt
  have g0 := HM1.out.qb.cell (i := 0) rfl
  have g1 := HM1.out.qb.cell (i := 1) rfl
  have g2 := HM1.out.qb.cell (i := 2) rfl
  have gz := HM1.out.qb.lt
  have HR4 := Lib.hid (show ∀ r ∈ rows, r.length ≤ 4294967296 from fun r hr => by rw [HT4.out r hr]; omega)
  obtain ⟨hc1, hc2⟩ := next_bd q1 4 (by omega)
  go_upto_region 27 with fail
  obtain ⟨wf, hwf⟩ : ∃ wf, wf = ((w2.setCell ⟨w.heap.size, 0, none⟩ (.string ⟨#[116, 119, 111, 32, 119, 111, 114, 100, 115]⟩)).alloc (.cells #[.string ⟨#[]⟩, .string ⟨#[111, 116, 104, 101, 114]⟩, .string ⟨#[49, 120]⟩, .string ⟨#[116, 119, 111, 32, 119, 111, 114, 100, 115]⟩] 9)) := ⟨_, rfl⟩
  have HF := Lib.hid (show ∃ (t : Look) (A : Option Addr) (c : Nat) (B : Option Addr) (e : Nat), OF w t A c B e wf by rw [hwf]; exact ⟨⟨⟨#[116, 119, 111, 32, 119, 111, 114, 100, 115]⟩, cols, rows⟩, Ac, cc, Ar, cr, OF.more (OF.of HM.out ((Only.refl w.heap.size w2).set 0 (.string ⟨#[116, 119, 111, 32, 119, 111, 114, 100, 115]⟩)) (by have := HM.out.box.set 0 (.string ⟨#[116, 119, 111, 32, 119, 111, 114, 100, 115]⟩); simpa using this) ⟨(show (⟨#[116, 119, 111, 32, 119, 111, 114, 100, 115]⟩ : ByteArray).size ≤ 4294967296 by decide), HM.out.cols.strs (by omega) fun b hb => (HM.out.cols.1.blk hb).1, HM.out.rows.rows (by omega) HR4.out⟩ ⟨HM.out.cols.1.cap, HM.out.rows.cap⟩) ((Ext.refl _).alloc _)⟩)
  rw [← hwf]
  clear hwf
  obtain ⟨t', A', c', B', e', hf⟩ := HF.out
  have HF := Lib.hid hf
  have f0 := hf.box.cell (i := 0) rfl
  have f1 := hf.box.cell (i := 1) rfl
  have f2 := hf.box.cell (i := 2) rfl
  have r0 := hf.res.cell (i := 0) rfl
  have r1 := hf.res.cell (i := 1) rfl
  have r2 := hf.res.cell (i := 2) rfl
  have rf := hf.res.frozen
  have rz := hf.res.lt
  clear hf d0 d1 d2 df dz g0 g1 g2 gz
  go_wp2
  all_goals refine bodyPost_ret (v := (.agg #[.string t'.name, .slice A' t'.cols.length c', .slice B' t'.rows.length e'])) (by simp [results, Tryz.results11, go_sem, r0, r1, r2, rf, rz]) rfl ⟨t', A', c', B', e', rfl, HF.out.cap, RL.mono (RL.keep HF.out.rl (K3 ?_)) fun b _ hb => by unfold Fresh; omega, E3 ?_⟩
  all_goals first | exact ⟨HF.out.ext, by omega⟩ | omega

set_option maxRecDepth 100000 in
set_option maxHeartbeats 4000000 in
theorem odd_1 (t : Look) (A B : Option Addr) (c e : Nat) (q0 q1 q2 : Int) (w : World) (S : Nat → Prop) (h : RL w S 2 t A B) (ht : OkT t) (hm : (q0.tmod 8 + 8) % 8 = 1) : Calls Tryz.prog 11 #[(.agg #[.string t.name, .slice A t.cols.length c, .slice B t.rows.length e]), .agg #[.int .i64 q0, .int .i64 q1, .int .i64 q2]] w (RetOd w) := by
  have H := Lib.hid h
  obtain ⟨ht1, ht2, ht3, ht4⟩ := ht
  have HT4 := Lib.hid ht4
  obtain ⟨hb1, hb2⟩ := next_bd q0 8 (by omega)
  have hnm := h.1
  clear h ht4
  obtain ⟨W0, hW0⟩ : ∃ W0, W0 = ((w.alloc (.cells #[.string t.name, .slice A t.cols.length c, .slice B t.rows.length e] 28)).alloc (.cells #[.int .i64 q0, .int .i64 q1, .int .i64 q2] 23)).alloc (.cells #[.string ⟨#[]⟩, .slice none 0 0, .slice none 0 0] 28) := ⟨_, rfl⟩
  have HW0 := Lib.hid hW0
  have hx0 : Ext w W0 := by rw [hW0]; exact (((Ext.refl w).alloc _).alloc _).alloc _
  have b0 : Blk W0 w.heap.size 28 #[.string t.name, .slice A t.cols.length c, .slice B t.rows.length e] := by rw [hW0]; exact ((Blk.new _ _ _).keep (Kept.alloc _ _ _)).keep (Kept.alloc _ _ _)
  have b1 : Blk W0 (w.heap.size + 1) 23 #[.int .i64 q0, .int .i64 q1, .int .i64 q2] := by
    rw [hW0]
    have := (Blk.new (w.alloc (.cells #[.string t.name, .slice A t.cols.length c, .slice B t.rows.length e] 28)) 23 #[.int .i64 q0, .int .i64 q1, .int .i64 q2]).keep (Kept.alloc _ _ (.cells #[.string ⟨#[]⟩, .slice none 0 0, .slice none 0 0] 28))
    simpa using this
  have b2 : Blk W0 (w.heap.size + 1 + 1) 28 #[.string ⟨#[]⟩, .slice none 0 0, .slice none 0 0] := by
    rw [hW0]
    have := Blk.new ((w.alloc (.cells #[.string t.name, .slice A t.cols.length c, .slice B t.rows.length e] 28)).alloc (.cells #[.int .i64 q0, .int .i64 q1, .int .i64 q2] 23)) 28 #[.string ⟨#[]⟩, .slice none 0 0, .slice none 0 0]
    simpa using this
  have hs0 : W0.heap.size = w.heap.size + 3 := by rw [hW0]; simp
  have HX0 := Lib.hid hx0
  have HB0 := Lib.hid b0
  have HB1 := Lib.hid b1
  have HB2 := Lib.hid b2
  have HS0 := Lib.hid hs0
  clear hW0 hx0 b0 b1 b2 hs0
  go_enter Tryz.func11, Tryz.ntmps11
  go_wp2_with fail
  rw [← HW0.out]
  refine (r09_Copy 2 t A B c e W0 S (H.out.keep (HX0.out.kept S))).mono ?_
  rintro e1 w1 ⟨Ac, cc, Ar, cr, rfl, hoc, hor, hsep, hx1⟩
  rw [HS0.out] at hoc hor
  have HM1 := Lib.hid (show OD w q0 q1 q2 t.name Ac cc t.cols Ar cr t.rows (((w1.setCell ⟨w.heap.size, 0, none⟩ (.string t.name)).setCell ⟨w.heap.size, 1, none⟩ (.slice Ac t.cols.length cc)).setCell ⟨w.heap.size, 2, none⟩ (.slice Ar t.rows.length cr)) by
    have ho := (((Only.refl w.heap.size w1).set 0 (.string t.name)).set 1 (.slice Ac t.cols.length cc)).set 2 (.slice Ar t.rows.length cr)
    refine ⟨(HX0.out.trans hx1).only ho (by omega), ?_, (HB1.out.keep (hx1.kept _)).keep (ho.kept fun b _ e => by omega), (HB2.out.keep (hx1.kept _)).keep (ho.kept fun b _ e => by omega), ⟨ho.own hoc.1 (by omega), hoc.2⟩, hor.keep (ho.kept fun b _ e => by omega) (fun b hb hb' => hsep b hb' hb), hsep⟩
    have := (((HB0.out.keep (hx1.kept _)).set 0 (.string t.name)).set 1 (.slice Ac t.cols.length cc)).set 2 (.slice Ar t.rows.length cr)
    simpa using this)
  have q5 := HB0.out.keep (hx1.kept _)
  have k50 := q5.cell (i := 0) rfl
  have k51 := q5.cell (i := 1) rfl
  have k52 := q5.cell (i := 2) rfl
  have kf := q5.frozen
  have kz := q5.lt
  clear hoc hor hsep hx1 q5 HX0 HB0 HB1 HB2 HS0 HW0
  go_upto_region 2 with fail
  obtain ⟨w2, hw2⟩ : ∃ w2, w2 = (((w1.setCell ⟨w.heap.size, 0, none⟩ (.string t.name)).setCell ⟨w.heap.size, 1, none⟩ (.slice Ac t.cols.length cc)).setCell ⟨w.heap.size, 2, none⟩ (.slice Ar t.rows.length cr)) := ⟨_, rfl⟩
  rw [← hw2] at HM1
  rw [← hw2]
  clear hw2 k50 k51 k52 kf kz
  obtain ⟨cols, hcols⟩ : ∃ cols, cols = t.cols := ⟨_, rfl⟩
  obtain ⟨rows, hrows⟩ : ∃ rows, rows = t.rows := ⟨_, rfl⟩
  obtain ⟨nm, hnmE⟩ : ∃ nm, nm = t.name := ⟨_, rfl⟩
  rw [← hcols, ← hrows, ← hnmE] at HM1
  rw [← hcols] at ht1 ht2 HT4
  rw [← hrows] at ht3 HT4
  rw [← hnmE] at hnm
  clear hcols hrows hnmE
  have HM := HM1
  have d0 := HM1.out.box.cell (i := 0) rfl
  have d1 := HM1.out.box.cell (i := 1) rfl
  have d2 := HM1.out.box.cell (i := 2) rfl
  have df := HM1.out.box.frozen
  have dz := HM1.out.box.lt
  have g0 := HM1.out.qb.cell (i := 0) rfl
  have g1 := HM1.out.qb.cell (i := 1) rfl
  have g2 := HM1.out.qb.cell (i := 2) rfl
  have gz := HM1.out.qb.lt
  have HR4 := Lib.hid (show ∀ r ∈ rows, r.length ≤ 4294967296 from fun r hr => by rw [HT4.out r hr]; omega)
  have HM3 := Lib.hid (HM.out.more ((Ext.refl w2).alloc (.cells #[.string ⟨#[99, 105, 116, 121]⟩] 9)))
  have HOC := Lib.hid HM3.out.cols.1
  go_upto_region 27 with (at_builtin; go_must (refine wpList_app rfl (.tmp 28) (.tmp 29) rfl tiS rfl HOC.out rfl (Blk.rd (Blk.new _ _ _)) rfl (by simp [Value.oneCell']) (by omega) (by decide) (by simp; omega) ?_); intro A4 c4 w4 hown4 hg4 hat4; obtain ⟨hb4, hf4⟩ := HM3.out.appC (s := ⟨#[99, 105, 116, 121]⟩) (by decide) hnm (by omega) (by omega) HR4.out hg4 hown4; have HF4 := Lib.hid hf4; have l1 := hb4.cell (i := 1) rfl; have lf := hb4.frozen; have lz := hb4.lt; clear hown4 hg4 hat4 hb4 hf4)
  obtain ⟨wf, hwf⟩ : ∃ wf, wf = (w4.setCell ⟨w.heap.size, 1, none⟩ (.slice A4 (cols.length + 1) c4)) := ⟨_, rfl⟩
  have HF := Lib.hid (show ∃ (t : Look) (A : Option Addr) (c : Nat) (B : Option Addr) (e : Nat), OF w t A c B e wf by rw [hwf]; exact ⟨_, _, _, _, _, HF4.out⟩)
  rw [← hwf]
  clear hwf
  obtain ⟨t', A', c', B', e', hf⟩ := HF.out
  have HF := Lib.hid hf
  have f0 := hf.box.cell (i := 0) rfl
  have f1 := hf.box.cell (i := 1) rfl
  have f2 := hf.box.cell (i := 2) rfl
  have r0 := hf.res.cell (i := 0) rfl
  have r1 := hf.res.cell (i := 1) rfl
  have r2 := hf.res.cell (i := 2) rfl
  have rf := hf.res.frozen
  have rz := hf.res.lt
  clear hf d0 d1 d2 df dz g0 g1 g2 gz
  go_wp2
  all_goals refine bodyPost_ret (v := (.agg #[.string t'.name, .slice A' t'.cols.length c', .slice B' t'.rows.length e'])) (by simp [results, Tryz.results11, go_sem, r0, r1, r2, rf, rz]) rfl ⟨t', A', c', B', e', rfl, HF.out.cap, RL.mono (RL.keep HF.out.rl (K3 ?_)) fun b _ hb => by unfold Fresh; omega, E3 ?_⟩
  all_goals first | exact ⟨HF.out.ext, by omega⟩ | omega

set_option maxRecDepth 100000 in
set_option maxHeartbeats 4000000 in
theorem odd_4 (t : Look) (A B : Option Addr) (c e : Nat) (q0 q1 q2 : Int) (w : World) (S : Nat → Prop) (h : RL w S 2 t A B) (ht : OkT t) (hm : (q0.tmod 8 + 8) % 8 = 4) : Calls Tryz.prog 11 #[(.agg #[.string t.name, .slice A t.cols.length c, .slice B t.rows.length e]), .agg #[.int .i64 q0, .int .i64 q1, .int .i64 q2]] w (RetOd w) := by
  have H := Lib.hid h
  obtain ⟨ht1, ht2, ht3, ht4⟩ := ht
  have HT4 := Lib.hid ht4
  obtain ⟨hb1, hb2⟩ := next_bd q0 8 (by omega)
  have hnm := h.1
  clear h ht4
  obtain ⟨W0, hW0⟩ : ∃ W0, W0 = ((w.alloc (.cells #[.string t.name, .slice A t.cols.length c, .slice B t.rows.length e] 28)).alloc (.cells #[.int .i64 q0, .int .i64 q1, .int .i64 q2] 23)).alloc (.cells #[.string ⟨#[]⟩, .slice none 0 0, .slice none 0 0] 28) := ⟨_, rfl⟩
  have HW0 := Lib.hid hW0
  have hx0 : Ext w W0 := by rw [hW0]; exact (((Ext.refl w).alloc _).alloc _).alloc _
  have b0 : Blk W0 w.heap.size 28 #[.string t.name, .slice A t.cols.length c, .slice B t.rows.length e] := by rw [hW0]; exact ((Blk.new _ _ _).keep (Kept.alloc _ _ _)).keep (Kept.alloc _ _ _)
  have b1 : Blk W0 (w.heap.size + 1) 23 #[.int .i64 q0, .int .i64 q1, .int .i64 q2] := by
    rw [hW0]
    have := (Blk.new (w.alloc (.cells #[.string t.name, .slice A t.cols.length c, .slice B t.rows.length e] 28)) 23 #[.int .i64 q0, .int .i64 q1, .int .i64 q2]).keep (Kept.alloc _ _ (.cells #[.string ⟨#[]⟩, .slice none 0 0, .slice none 0 0] 28))
    simpa using this
  have b2 : Blk W0 (w.heap.size + 1 + 1) 28 #[.string ⟨#[]⟩, .slice none 0 0, .slice none 0 0] := by
    rw [hW0]
    have := Blk.new ((w.alloc (.cells #[.string t.name, .slice A t.cols.length c, .slice B t.rows.length e] 28)).alloc (.cells #[.int .i64 q0, .int .i64 q1, .int .i64 q2] 23)) 28 #[.string ⟨#[]⟩, .slice none 0 0, .slice none 0 0]
    simpa using this
  have hs0 : W0.heap.size = w.heap.size + 3 := by rw [hW0]; simp
  have HX0 := Lib.hid hx0
  have HB0 := Lib.hid b0
  have HB1 := Lib.hid b1
  have HB2 := Lib.hid b2
  have HS0 := Lib.hid hs0
  clear hW0 hx0 b0 b1 b2 hs0
  go_enter Tryz.func11, Tryz.ntmps11
  go_wp2_with fail
  rw [← HW0.out]
  refine (r09_Copy 2 t A B c e W0 S (H.out.keep (HX0.out.kept S))).mono ?_
  rintro e1 w1 ⟨Ac, cc, Ar, cr, rfl, hoc, hor, hsep, hx1⟩
  rw [HS0.out] at hoc hor
  have HM1 := Lib.hid (show OD w q0 q1 q2 t.name Ac cc t.cols Ar cr t.rows (((w1.setCell ⟨w.heap.size, 0, none⟩ (.string t.name)).setCell ⟨w.heap.size, 1, none⟩ (.slice Ac t.cols.length cc)).setCell ⟨w.heap.size, 2, none⟩ (.slice Ar t.rows.length cr)) by
    have ho := (((Only.refl w.heap.size w1).set 0 (.string t.name)).set 1 (.slice Ac t.cols.length cc)).set 2 (.slice Ar t.rows.length cr)
    refine ⟨(HX0.out.trans hx1).only ho (by omega), ?_, (HB1.out.keep (hx1.kept _)).keep (ho.kept fun b _ e => by omega), (HB2.out.keep (hx1.kept _)).keep (ho.kept fun b _ e => by omega), ⟨ho.own hoc.1 (by omega), hoc.2⟩, hor.keep (ho.kept fun b _ e => by omega) (fun b hb hb' => hsep b hb' hb), hsep⟩
    have := (((HB0.out.keep (hx1.kept _)).set 0 (.string t.name)).set 1 (.slice Ac t.cols.length cc)).set 2 (.slice Ar t.rows.length cr)
    simpa using this)
  have q5 := HB0.out.keep (hx1.kept _)
  have k50 := q5.cell (i := 0) rfl
  have k51 := q5.cell (i := 1) rfl
  have k52 := q5.cell (i := 2) rfl
  have kf := q5.frozen
  have kz := q5.lt
  clear hoc hor hsep hx1 q5 HX0 HB0 HB1 HB2 HS0 HW0
  go_upto_region 2 with fail
  obtain ⟨w2, hw2⟩ : ∃ w2, w2 = (((w1.setCell ⟨w.heap.size, 0, none⟩ (.string t.name)).setCell ⟨w.heap.size, 1, none⟩ (.slice Ac t.cols.length cc)).setCell ⟨w.heap.size, 2, none⟩ (.slice Ar t.rows.length cr)) := ⟨_, rfl⟩
  rw [← hw2] at HM1
  rw [← hw2]
  clear hw2 k50 k51 k52 kf kz
  obtain ⟨cols, hcols⟩ : ∃ cols, cols = t.cols := ⟨_, rfl⟩
  obtain ⟨rows, hrows⟩ : ∃ rows, rows = t.rows := ⟨_, rfl⟩
  obtain ⟨nm, hnmE⟩ : ∃ nm, nm = t.name := ⟨_, rfl⟩
  rw [← hcols, ← hrows, ← hnmE] at HM1
  rw [← hcols] at ht1 ht2 HT4
  rw [← hrows] at ht3 HT4
  rw [← hnmE] at hnm
  clear hcols hrows hnmE
  have HM := HM1
  have d0 := HM1.out.box.cell (i := 0) rfl
  have d1 := HM1.out.box.cell (i := 1) rfl
  have d2 := HM1.out.box.cell (i := 2) rfl
  have df := HM1.out.box.frozen
  have dz := HM1.out.box.lt
  have g0 := HM1.out.qb.cell (i := 0) rfl
  have g1 := HM1.out.qb.cell (i := 1) rfl
  have g2 := HM1.out.qb.cell (i := 2) rfl
  have gz := HM1.out.qb.lt
  have HR4 := Lib.hid (show ∀ r ∈ rows, r.length ≤ 4294967296 from fun r hr => by rw [HT4.out r hr]; omega)
  go_upto_region 27 with fail
  obtain ⟨wf, hwf⟩ : ∃ wf, wf = ((w2.setCell ⟨w.heap.size, 1, none⟩ (.slice none 0 0)).setCell ⟨w.heap.size, 2, none⟩ (.slice none 0 0)) := ⟨_, rfl⟩
  have HF := Lib.hid (show ∃ (t : Look) (A : Option Addr) (c : Nat) (B : Option Addr) (e : Nat), OF w t A c B e wf by rw [hwf]; exact ⟨⟨nm, [], []⟩, none, 0, none, 0, OF.of HM.out (((Only.refl w.heap.size w2).set 1 (.slice none 0 0)).set 2 (.slice none 0 0)) (by have := (HM.out.box.set 1 (.slice none 0 0)).set 2 (.slice none 0 0); simpa using this) ⟨hnm, Strs.nil, Rows.nil⟩ ⟨Nat.le_refl _, Nat.le_refl _⟩⟩)
  rw [← hwf]
  clear hwf
  obtain ⟨t', A', c', B', e', hf⟩ := HF.out
  have HF := Lib.hid hf
  have f0 := hf.box.cell (i := 0) rfl
  have f1 := hf.box.cell (i := 1) rfl
  have f2 := hf.box.cell (i := 2) rfl
  have r0 := hf.res.cell (i := 0) rfl
  have r1 := hf.res.cell (i := 1) rfl
  have r2 := hf.res.cell (i := 2) rfl
  have rf := hf.res.frozen
  have rz := hf.res.lt
  clear hf d0 d1 d2 df dz g0 g1 g2 gz
  go_wp2
  all_goals refine bodyPost_ret (v := (.agg #[.string t'.name, .slice A' t'.cols.length c', .slice B' t'.rows.length e'])) (by simp [results, Tryz.results11, go_sem, r0, r1, r2, rf, rz]) rfl ⟨t', A', c', B', e', rfl, HF.out.cap, RL.mono (RL.keep HF.out.rl (K3 ?_)) fun b _ hb => by unfold Fresh; omega, E3 ?_⟩
  all_goals first | exact ⟨HF.out.ext, by omega⟩ | omega
end Go.Proofs.YtcmmkeiiapbgcaaGreatDoor
/- The reference's Odd: a row more, many rows more. Conditions: the table reads as data, and is regular. -/
namespace Go.Proofs.YtcmmkeiiapbgcaaGreatDoor
open Go Go.RowKit
theorem lens_app {rows : List (List Val)} {n : Nat} (h : ∀ r ∈ rows, r.length ≤ 4294967296) (hn : n ≤ 4) : ∀ r ∈ rows ++ [List.replicate n Val.zero], r.length ≤ 4294967296 := by
  intro r hr
  rcases List.mem_append.1 hr with hr | hr
  · exact h r hr
  · simp at hr
    rw [hr, List.length_replicate]
    omega
def OdAInv (w : World) (q0 q1 q2 : Int) (nm : ByteArray) (Ac : Option Addr) (cc : Nat) (cols : List ByteArray) (Ar : Option Addr) (cr : Nat) (rows : List (List Val)) (γ : Nat) (w' : World) : Prop := γ ≤ 4 ∧ (γ ≤ 3 → ∃ y, Blk w' w.heap.size 28 #[.string nm, .slice Ac cols.length cc, y]) ∧ (γ ≤ 2 → OD w q0 q1 q2 nm Ac cc cols Ar cr rows w')
def gOdA (w : World) (q0 q1 q2 : Int) (nm : ByteArray) (Ac : Option Addr) (cc : Nat) (cols : List ByteArray) (Ar : Option Addr) (cr : Nat) (rows : List (List Val)) : Nat → List Value → Nat → World → Prop
  | 0, [v], γ, w' => v = .pointer (some ⟨w.heap.size, 2, none⟩)
  | 1, [v], γ, w' => v = .slice Ar rows.length cr
  | 2, [v], γ, w' => v = .pointer (some ⟨w.heap.size, 1, none⟩)
  | 3, [v], γ, w' => v = .slice Ac cols.length cc
  | 4, [v], γ, w' => v = .int .i64 (cols.length : Int)
  | 5, [v], γ, w' => ∃ g : Nat, v = .slice (some ⟨g, 0, none⟩) cols.length cols.length ∧ 1 ≤ γ ∧ (γ = 1 → RRpush w' (w.heap.size + 3) (fun b => ob Ac = some b) 2 Ar cr rows (some ⟨g, 0, none⟩) cols.length (List.replicate cols.length Val.zero))
  | 6, [v], γ, w' => ∃ g g' : Nat, v = .slice (some ⟨g, 0, none⟩) 1 1 ∧ 2 ≤ γ ∧ (γ = 2 → Blk w' g 45 #[.slice (some ⟨g', 0, none⟩) cols.length cols.length] ∧ RRpush w' (w.heap.size + 3) (fun b => ob Ac = some b) 2 Ar cr rows (some ⟨g', 0, none⟩) cols.length (List.replicate cols.length Val.zero))
  | 7, [v], γ, w' => ∃ (A4 : Option Addr) (c4 : Nat), v = .slice A4 (rows.length + 1) c4 ∧ 3 ≤ γ ∧ (γ = 3 → ODA w q0 q1 q2 nm Ac cc cols A4 c4 (rows ++ [(List.replicate cols.length Val.zero)]) w')
  | 8, [v], γ, w' => v = .pointer (some ⟨w.heap.size, 2, none⟩)
  | 9, [v], γ, w' => 4 ≤ γ ∧ (γ = 4 → ∃ (A4 : Option Addr) (c4 : Nat), OD w q0 q1 q2 nm Ac cc cols A4 c4 (rows ++ [(List.replicate cols.length Val.zero)]) w')
  | _, _, _, _ => True
theorem gOdA_st (w : World) (q0 q1 q2 : Int) (nm : ByteArray) (Ac : Option Addr) (cc : Nat) (cols : List ByteArray) (Ar : Option Addr) (cr : Nat) (rows : List (List Val)) : ∀ i l' γ v γ' v', SR (OdAInv w q0 q1 q2 nm Ac cc cols Ar cr rows) γ v γ' v' → gOdA w q0 q1 q2 nm Ac cc cols Ar cr rows i l' γ v → gOdA w q0 q1 q2 nm Ac cc cols Ar cr rows i l' γ' v' := by
  intro i l' γ v γ' v' r h
  have hle := r.le
  unfold gOdA at h ⊢
  split at h
  all_goals first
    | exact h
    | (obtain ⟨h1, h2⟩ := h; exact ⟨h1, by omega⟩)
    | (obtain ⟨h1, h3, h4⟩ := h; exact ⟨h1, by omega, fun e => by rw [r.eq (by omega)]; exact h4 (by omega)⟩)
    | (obtain ⟨x0, h1, h3, h4⟩ := h; exact ⟨x0, h1, by omega, fun e => by rw [r.eq (by omega)]; exact h4 (by omega)⟩)
    | (obtain ⟨x0, x1, h1, h3, h4⟩ := h; exact ⟨x0, x1, h1, by omega, fun e => by rw [r.eq (by omega)]; exact h4 (by omega)⟩)
    | (obtain ⟨x0, x1, x2, h1, h3, h4⟩ := h; exact ⟨x0, x1, x2, h1, by omega, fun e => by rw [r.eq (by omega)]; exact h4 (by omega)⟩)
    | (obtain ⟨x0, x1, x2, x3, h1, h3, h4⟩ := h; exact ⟨x0, x1, x2, x3, h1, by omega, fun e => by rw [r.eq (by omega)]; exact h4 (by omega)⟩)
    | (obtain ⟨x0, x1, x2, x3, x4, h1, h3, h4⟩ := h; exact ⟨x0, x1, x2, x3, x4, h1, by omega, fun e => by rw [r.eq (by omega)]; exact h4 (by omega)⟩)
    | (obtain ⟨h3, h4⟩ := h; exact ⟨by omega, fun e => by rw [r.eq (by omega)]; exact h4 (by omega)⟩)
def dOdA : Nat → List Nat := fun i => [i]
def stOdA : List Nat := [100, 3, 100, 4, 100, 1, 2, 3, 100, 4]

set_option maxRecDepth 100000 in
set_option maxHeartbeats 4000000 in
theorem odd_2 (t : Look) (A B : Option Addr) (c e : Nat) (q0 q1 q2 : Int) (w : World) (S : Nat → Prop) (h : RL w S 2 t A B) (ht : OkT t) (hm : (q0.tmod 8 + 8) % 8 = 2) : Calls Tryz.prog 11 #[(.agg #[.string t.name, .slice A t.cols.length c, .slice B t.rows.length e]), .agg #[.int .i64 q0, .int .i64 q1, .int .i64 q2]] w (RetOd w) := by
  have H := Lib.hid h
  obtain ⟨ht1, ht2, ht3, ht4⟩ := ht
  have HT4 := Lib.hid ht4
  obtain ⟨hb1, hb2⟩ := next_bd q0 8 (by omega)
  have hnm := h.1
  clear h ht4
  obtain ⟨W0, hW0⟩ : ∃ W0, W0 = ((w.alloc (.cells #[.string t.name, .slice A t.cols.length c, .slice B t.rows.length e] 28)).alloc (.cells #[.int .i64 q0, .int .i64 q1, .int .i64 q2] 23)).alloc (.cells #[.string ⟨#[]⟩, .slice none 0 0, .slice none 0 0] 28) := ⟨_, rfl⟩
  have HW0 := Lib.hid hW0
  have hx0 : Ext w W0 := by rw [hW0]; exact (((Ext.refl w).alloc _).alloc _).alloc _
  have b0 : Blk W0 w.heap.size 28 #[.string t.name, .slice A t.cols.length c, .slice B t.rows.length e] := by rw [hW0]; exact ((Blk.new _ _ _).keep (Kept.alloc _ _ _)).keep (Kept.alloc _ _ _)
  have b1 : Blk W0 (w.heap.size + 1) 23 #[.int .i64 q0, .int .i64 q1, .int .i64 q2] := by
    rw [hW0]
    have := (Blk.new (w.alloc (.cells #[.string t.name, .slice A t.cols.length c, .slice B t.rows.length e] 28)) 23 #[.int .i64 q0, .int .i64 q1, .int .i64 q2]).keep (Kept.alloc _ _ (.cells #[.string ⟨#[]⟩, .slice none 0 0, .slice none 0 0] 28))
    simpa using this
  have b2 : Blk W0 (w.heap.size + 1 + 1) 28 #[.string ⟨#[]⟩, .slice none 0 0, .slice none 0 0] := by
    rw [hW0]
    have := Blk.new ((w.alloc (.cells #[.string t.name, .slice A t.cols.length c, .slice B t.rows.length e] 28)).alloc (.cells #[.int .i64 q0, .int .i64 q1, .int .i64 q2] 23)) 28 #[.string ⟨#[]⟩, .slice none 0 0, .slice none 0 0]
    simpa using this
  have hs0 : W0.heap.size = w.heap.size + 3 := by rw [hW0]; simp
  have HX0 := Lib.hid hx0
  have HB0 := Lib.hid b0
  have HB1 := Lib.hid b1
  have HB2 := Lib.hid b2
  have HS0 := Lib.hid hs0
  clear hW0 hx0 b0 b1 b2 hs0
  go_enter Tryz.func11, Tryz.ntmps11
  go_wp2_with fail
  rw [← HW0.out]
  refine (r09_Copy 2 t A B c e W0 S (H.out.keep (HX0.out.kept S))).mono ?_
  rintro e1 w1 ⟨Ac, cc, Ar, cr, rfl, hoc, hor, hsep, hx1⟩
  rw [HS0.out] at hoc hor
  have HM1 := Lib.hid (show OD w q0 q1 q2 t.name Ac cc t.cols Ar cr t.rows (((w1.setCell ⟨w.heap.size, 0, none⟩ (.string t.name)).setCell ⟨w.heap.size, 1, none⟩ (.slice Ac t.cols.length cc)).setCell ⟨w.heap.size, 2, none⟩ (.slice Ar t.rows.length cr)) by
    have ho := (((Only.refl w.heap.size w1).set 0 (.string t.name)).set 1 (.slice Ac t.cols.length cc)).set 2 (.slice Ar t.rows.length cr)
    refine ⟨(HX0.out.trans hx1).only ho (by omega), ?_, (HB1.out.keep (hx1.kept _)).keep (ho.kept fun b _ e => by omega), (HB2.out.keep (hx1.kept _)).keep (ho.kept fun b _ e => by omega), ⟨ho.own hoc.1 (by omega), hoc.2⟩, hor.keep (ho.kept fun b _ e => by omega) (fun b hb hb' => hsep b hb' hb), hsep⟩
    have := (((HB0.out.keep (hx1.kept _)).set 0 (.string t.name)).set 1 (.slice Ac t.cols.length cc)).set 2 (.slice Ar t.rows.length cr)
    simpa using this)
  have q5 := HB0.out.keep (hx1.kept _)
  have k50 := q5.cell (i := 0) rfl
  have k51 := q5.cell (i := 1) rfl
  have k52 := q5.cell (i := 2) rfl
  have kf := q5.frozen
  have kz := q5.lt
  clear hoc hor hsep hx1 q5 HX0 HB0 HB1 HB2 HS0 HW0
  go_upto_region 2 with fail
  obtain ⟨w2, hw2⟩ : ∃ w2, w2 = (((w1.setCell ⟨w.heap.size, 0, none⟩ (.string t.name)).setCell ⟨w.heap.size, 1, none⟩ (.slice Ac t.cols.length cc)).setCell ⟨w.heap.size, 2, none⟩ (.slice Ar t.rows.length cr)) := ⟨_, rfl⟩
  rw [← hw2] at HM1
  rw [← hw2]
  clear hw2 k50 k51 k52 kf kz
  obtain ⟨cols, hcols⟩ : ∃ cols, cols = t.cols := ⟨_, rfl⟩
  obtain ⟨rows, hrows⟩ : ∃ rows, rows = t.rows := ⟨_, rfl⟩
  obtain ⟨nm, hnmE⟩ : ∃ nm, nm = t.name := ⟨_, rfl⟩
  rw [← hcols, ← hrows, ← hnmE] at HM1
  rw [← hcols] at ht1 ht2 HT4
  rw [← hrows] at ht3 HT4
  rw [← hnmE] at hnm
  clear hcols hrows hnmE
  have HM := HM1
  have d0 := HM1.out.box.cell (i := 0) rfl
  have d1 := HM1.out.box.cell (i := 1) rfl
  have d2 := HM1.out.box.cell (i := 2) rfl
  have df := HM1.out.box.frozen
  have dz := HM1.out.box.lt
  have g0 := HM1.out.qb.cell (i := 0) rfl
  have g1 := HM1.out.qb.cell (i := 1) rfl
  have g2 := HM1.out.qb.cell (i := 2) rfl
  have gz := HM1.out.qb.lt
  have HR4 := Lib.hid (show ∀ r ∈ rows, r.length ≤ 4294967296 from fun r hr => by rw [HT4.out r hr]; omega)
  go_upto_region 8 with fail
  refine wp_region_lin_lit (by kernel_rfl) dOdA (by kernel_rfl) (SR (OdAInv w q0 q1 q2 nm Ac cc cols Ar cr rows)) (SR.refl _) (SR.trans _) (SN stOdA) (gOdA w q0 q1 q2 nm Ac cc cols Ar cr rows) (gOdA_st _ _ _ _ _ _ _ _ _ _ _) 0 (SN.zero (by decide)) ⟨?_, ?_, ?_, ?_, ?_, ?_, ?_, ?_, ?_, ?_, trivial⟩ ?_
  · refine LinStep.yes fun vals γ w' ρ hR hN hp hρ hc hf hg => ⟨rfl, ?_⟩
    have hi := hR.inv ⟨by omega, fun _ => ⟨_, HM.out.box.keep (Kept.drew _ _)⟩, fun _ => HM.out.more (Ext.refl _).drew⟩
    have e2 : ρ (.tmp 2) = .pointer (some ⟨w.heap.size, 0, none⟩) := hρ 2
    clear hR hN hp hρ hi
    go_light
    go_simp
    exact ⟨γ, SR.refl _ _ _, fun _ _ _ h => h, rfl⟩
  · refine LinStep.yes fun vals γ w' ρ hR hN hp hρ hc hf hg => ⟨rfl, ?_⟩
    have hi := hR.inv ⟨by omega, fun _ => ⟨_, HM.out.box.keep (Kept.drew _ _)⟩, fun _ => HM.out.more (Ext.refl _).drew⟩
    have e34 : ρ (.tmp 34) = _ := (hρ 34).trans (hp 0 (by decide))
    have hb := (hi.2.2 (by have h : γ < 3 := hN; omega)).box
    have k1 := hb.cell (i := 2) rfl
    clear hR hN hp hρ hi hb
    go_light
    go_simp
    exact ⟨γ, SR.refl _ _ _, fun _ _ _ h => h, rfl⟩
  · refine LinStep.yes fun vals γ w' ρ hR hN hp hρ hc hf hg => ⟨rfl, ?_⟩
    have hi := hR.inv ⟨by omega, fun _ => ⟨_, HM.out.box.keep (Kept.drew _ _)⟩, fun _ => HM.out.more (Ext.refl _).drew⟩
    have e2 : ρ (.tmp 2) = .pointer (some ⟨w.heap.size, 0, none⟩) := hρ 2
    clear hR hN hp hρ hi
    go_light
    go_simp
    exact ⟨γ, SR.refl _ _ _, fun _ _ _ h => h, rfl⟩
  · refine LinStep.yes fun vals γ w' ρ hR hN hp hρ hc hf hg => ⟨rfl, ?_⟩
    have hi := hR.inv ⟨by omega, fun _ => ⟨_, HM.out.box.keep (Kept.drew _ _)⟩, fun _ => HM.out.more (Ext.refl _).drew⟩
    have e36 : ρ (.tmp 36) = _ := (hρ 36).trans (hp 2 (by decide))
    obtain ⟨y, hb⟩ := hi.2.1 (by have h : γ < 4 := hN; omega)
    have k1 := hb.cell (i := 1) rfl
    clear hR hN hp hρ hi hb
    go_light
    go_simp
    exact ⟨γ, SR.refl _ _ _, fun _ _ _ h => h, rfl⟩
  · refine LinStep.yes fun vals γ w' ρ hR hN hp hρ hc hf hg => ⟨rfl, ?_⟩
    have hi := hR.inv ⟨by omega, fun _ => ⟨_, HM.out.box.keep (Kept.drew _ _)⟩, fun _ => HM.out.more (Ext.refl _).drew⟩
    have e37 : ρ (.tmp 37) = _ := (hρ 37).trans (hp 3 (by decide))
    clear hR hN hp hρ hi
    go_light
    go_simp
    exact ⟨γ, SR.refl _ _ _, fun _ _ _ h => h, rfl⟩
  · refine LinStep.yes fun vals γ w' ρ hR hN hp hρ hc hf hg => ⟨rfl, ?_⟩
    have hi := hR.inv ⟨by omega, fun _ => ⟨_, HM.out.box.keep (Kept.drew _ _)⟩, fun _ => HM.out.more (Ext.refl _).drew⟩
    have e38 : ρ (.tmp 38) = _ := (hρ 38).trans (hp 4 (by decide))
    have h0 : γ = 0 := by have h : γ < 1 := hN; omega
    subst h0
    have HI := Lib.hid (hi.2.2 (by omega))
    have hmk := run_mkV cols.length (by omega)
    clear hR hN hp hρ hi
    go_light
    go_simp
    have hx1 : Ext w' (w'.alloc (.cells (zeroRow cols.length) 33)) := (Ext.refl _).alloc _
    have hod := HI.out.more hx1
    exact ⟨1, SR.up (by omega) ⟨by omega, fun _ => ⟨_, hod.box⟩, fun _ => hod⟩, SN.up (by omega) (by decide) rfl, _, rfl, by omega, fun _ => RRpush.of HI.out.rows (fun b hb => (HI.out.cols.1.blk hb).2) (OwnVs.zeros w' cols.length 2 (by decide) (by omega)) hx1⟩
  · refine LinStep.yes fun vals γ w' ρ hR hN hp hρ hc hf hg => ⟨rfl, ?_⟩
    have hi := hR.inv ⟨by omega, fun _ => ⟨_, HM.out.box.keep (Kept.drew _ _)⟩, fun _ => HM.out.more (Ext.refl _).drew⟩
    obtain ⟨g', g5, hr1, hpu⟩ := hp 5 (by decide)
    have e39 : ρ (.tmp 39) = _ := (hρ 39).trans g5
    have h0 : γ = 1 := by have h : γ < 2 := hN; omega
    subst h0
    have HI := Lib.hid (hi.2.2 (by omega))
    have HPU := Lib.hid (hpu rfl)
    clear hR hN hp hρ hi g5 hpu
    go_light
    go_simp
    have hx1 : Ext w' (w'.alloc (.cells #[.slice (some ⟨g', 0, none⟩) cols.length cols.length] 45)) := (Ext.refl _).alloc _
    have hod := HI.out.more hx1
    exact ⟨2, SR.up (by omega) ⟨by omega, fun _ => ⟨_, hod.box⟩, fun _ => hod⟩, SN.up (by omega) (by decide) rfl, _, g', rfl, by omega, fun _ => ⟨Blk.new _ _ _, HPU.out.ext hx1⟩⟩
  · refine LinStep.yes fun vals γ w' ρ hR hN hp hρ hc hf hg => ⟨rfl, ?_⟩
    have hi := hR.inv ⟨by omega, fun _ => ⟨_, HM.out.box.keep (Kept.drew _ _)⟩, fun _ => HM.out.more (Ext.refl _).drew⟩
    obtain ⟨g', g'', g6, hr2, hbk⟩ := hp 6 (by decide)
    have e40 : ρ (.tmp 40) = _ := (hρ 40).trans g6
    have e35 : ρ (.tmp 35) = _ := (hρ 35).trans (hp 1 (by decide))
    have h0 : γ = 2 := by have h : γ < 3 := hN; omega
    subst h0
    obtain ⟨hbk1, hbk2⟩ := hbk rfl
    have hod := hi.2.2 (by omega)
    obtain ⟨hs, ho1, huse⟩ := hbk2.use
    refine lin_app (.tmp 35) (.tmp 40) rfl tiR e35 ho1 e40 hbk1.rd rfl (by simp [Value.oneCell']) (by omega) (by decide) (by have h1 := hod.res.lt; omega) ?_
    intro A4 c4 w4 hown4 hg4 hat4
    have hoda := hod.appR hg4 (huse w4 A4 c4 (by rw [List.length_replicate]; exact hown4) hg4 hat4) hat4
    exact ⟨3, SR.up (by omega) ⟨by omega, fun _ => hoda.box, fun h => absurd h (by omega)⟩, SN.up (by omega) (by decide) rfl, A4, c4, rfl, by omega, fun _ => hoda⟩
  · refine LinStep.yes fun vals γ w' ρ hR hN hp hρ hc hf hg => ⟨rfl, ?_⟩
    have hi := hR.inv ⟨by omega, fun _ => ⟨_, HM.out.box.keep (Kept.drew _ _)⟩, fun _ => HM.out.more (Ext.refl _).drew⟩
    have e2 : ρ (.tmp 2) = .pointer (some ⟨w.heap.size, 0, none⟩) := hρ 2
    clear hR hN hp hρ hi
    go_light
    go_simp
    exact ⟨γ, SR.refl _ _ _, fun _ _ _ h => h, rfl⟩
  · refine LinStep.yes fun vals γ w' ρ hR hN hp hρ hc hf hg => ⟨rfl, ?_⟩
    have hi := hR.inv ⟨by omega, fun _ => ⟨_, HM.out.box.keep (Kept.drew _ _)⟩, fun _ => HM.out.more (Ext.refl _).drew⟩
    obtain ⟨A4, c4, g7, hr3, hda⟩ := hp 7 (by decide)
    have e41 : ρ (.tmp 41) = _ := (hρ 41).trans g7
    have e42 : ρ (.tmp 42) = _ := (hρ 42).trans (hp 8 (by decide))
    have h0 : γ = 3 := by have h : γ < 4 := hN; omega
    subst h0
    have HA := Lib.hid (hda rfl)
    obtain ⟨y, hy⟩ := (hda rfl).box
    have k0 := hy.cell (i := 2) rfl
    have kf := hy.frozen
    have kz := hy.lt
    clear hR hN hp hρ hi g7 hda hy
    go_light
    go_simp
    have hs := HA.out.store
    rw [List.length_append, List.length_singleton] at hs
    exact ⟨4, SR.up (by omega) ⟨by omega, fun h => absurd h (by omega), fun h => absurd h (by omega)⟩, SN.up (by omega) (by decide) rfl, by omega, fun _ => ⟨A4, c4, hs⟩⟩
  · intro vals γ w' hR hG
    have hi := hR.inv ⟨by omega, fun _ => ⟨_, HM.out.box.keep (Kept.drew _ _)⟩, fun _ => HM.out.more (Ext.refl _).drew⟩
    obtain ⟨h4, h5⟩ := hG 9 (by decide)
    obtain ⟨A4, c4, hm1⟩ := h5 (by have := hi.1; omega)
    have HM1 := Lib.hid hm1
    clear hR hG hi h4 h5 hm1 HM
    simp only [lexFrame, Act.put, List.setIfInBounds_toArray, List.set_cons_succ, List.set_cons_zero, Nat.zero_add, Nat.reduceAdd]
    generalize vals 0 = u0, vals 1 = u1, vals 2 = u2, vals 3 = u3, vals 4 = u4, vals 5 = u5, vals 6 = u6, vals 7 = u7, vals 8 = u8, vals 9 = u9
    go_upto_region 27 with fail
    obtain ⟨wf, hwf⟩ : ∃ wf, wf = w' := ⟨_, rfl⟩
    have HF := Lib.hid (show ∃ (t : Look) (A : Option Addr) (c : Nat) (B : Option Addr) (e : Nat), OF w t A c B e wf by rw [hwf]; exact ⟨_, _, _, _, _, HM1.out.fin hnm (by omega) (by simp; omega) (lens_app HR4.out ht2)⟩)
    rw [← hwf]
    clear hwf
    obtain ⟨t', A', c', B', e', hf⟩ := HF.out
    have HF := Lib.hid hf
    have f0 := hf.box.cell (i := 0) rfl
    have f1 := hf.box.cell (i := 1) rfl
    have f2 := hf.box.cell (i := 2) rfl
    have r0 := hf.res.cell (i := 0) rfl
    have r1 := hf.res.cell (i := 1) rfl
    have r2 := hf.res.cell (i := 2) rfl
    have rf := hf.res.frozen
    have rz := hf.res.lt
    clear hf d0 d1 d2 df dz g0 g1 g2 gz
    go_wp2
    all_goals refine bodyPost_ret (v := (.agg #[.string t'.name, .slice A' t'.cols.length c', .slice B' t'.rows.length e'])) (by simp [results, Tryz.results11, go_sem, r0, r1, r2, rf, rz]) rfl ⟨t', A', c', B', e', rfl, HF.out.cap, RL.mono (RL.keep HF.out.rl (K3 ?_)) fun b _ hb => by unfold Fresh; omega, E3 ?_⟩
    all_goals first | exact ⟨HF.out.ext, by omega⟩ | omega

set_option maxRecDepth 100000 in
set_option maxHeartbeats 4000000 in
theorem odd_6 (t : Look) (A B : Option Addr) (c e : Nat) (q0 q1 q2 : Int) (w : World) (S : Nat → Prop) (h : RL w S 2 t A B) (ht : OkT t) (hm : (q0.tmod 8 + 8) % 8 = 6) (N : Nat) (hN : (q1.tmod 8 + 8) % 8 = (N : Int)) (hN7 : N < 8) : Calls Tryz.prog 11 #[(.agg #[.string t.name, .slice A t.cols.length c, .slice B t.rows.length e]), .agg #[.int .i64 q0, .int .i64 q1, .int .i64 q2]] w (RetOd w) := by
  have H := Lib.hid h
  obtain ⟨ht1, ht2, ht3, ht4⟩ := ht
  have HT4 := Lib.hid ht4
  obtain ⟨hb1, hb2⟩ := next_bd q0 8 (by omega)
  have hnm := h.1
  clear h ht4
  obtain ⟨W0, hW0⟩ : ∃ W0, W0 = ((w.alloc (.cells #[.string t.name, .slice A t.cols.length c, .slice B t.rows.length e] 28)).alloc (.cells #[.int .i64 q0, .int .i64 q1, .int .i64 q2] 23)).alloc (.cells #[.string ⟨#[]⟩, .slice none 0 0, .slice none 0 0] 28) := ⟨_, rfl⟩
  have HW0 := Lib.hid hW0
  have hx0 : Ext w W0 := by rw [hW0]; exact (((Ext.refl w).alloc _).alloc _).alloc _
  have b0 : Blk W0 w.heap.size 28 #[.string t.name, .slice A t.cols.length c, .slice B t.rows.length e] := by rw [hW0]; exact ((Blk.new _ _ _).keep (Kept.alloc _ _ _)).keep (Kept.alloc _ _ _)
  have b1 : Blk W0 (w.heap.size + 1) 23 #[.int .i64 q0, .int .i64 q1, .int .i64 q2] := by
    rw [hW0]
    have := (Blk.new (w.alloc (.cells #[.string t.name, .slice A t.cols.length c, .slice B t.rows.length e] 28)) 23 #[.int .i64 q0, .int .i64 q1, .int .i64 q2]).keep (Kept.alloc _ _ (.cells #[.string ⟨#[]⟩, .slice none 0 0, .slice none 0 0] 28))
    simpa using this
  have b2 : Blk W0 (w.heap.size + 1 + 1) 28 #[.string ⟨#[]⟩, .slice none 0 0, .slice none 0 0] := by
    rw [hW0]
    have := Blk.new ((w.alloc (.cells #[.string t.name, .slice A t.cols.length c, .slice B t.rows.length e] 28)).alloc (.cells #[.int .i64 q0, .int .i64 q1, .int .i64 q2] 23)) 28 #[.string ⟨#[]⟩, .slice none 0 0, .slice none 0 0]
    simpa using this
  have hs0 : W0.heap.size = w.heap.size + 3 := by rw [hW0]; simp
  have HX0 := Lib.hid hx0
  have HB0 := Lib.hid b0
  have HB1 := Lib.hid b1
  have HB2 := Lib.hid b2
  have HS0 := Lib.hid hs0
  clear hW0 hx0 b0 b1 b2 hs0
  go_enter Tryz.func11, Tryz.ntmps11
  go_wp2_with fail
  rw [← HW0.out]
  refine (r09_Copy 2 t A B c e W0 S (H.out.keep (HX0.out.kept S))).mono ?_
  rintro e1 w1 ⟨Ac, cc, Ar, cr, rfl, hoc, hor, hsep, hx1⟩
  rw [HS0.out] at hoc hor
  have HM1 := Lib.hid (show OD w q0 q1 q2 t.name Ac cc t.cols Ar cr t.rows (((w1.setCell ⟨w.heap.size, 0, none⟩ (.string t.name)).setCell ⟨w.heap.size, 1, none⟩ (.slice Ac t.cols.length cc)).setCell ⟨w.heap.size, 2, none⟩ (.slice Ar t.rows.length cr)) by
    have ho := (((Only.refl w.heap.size w1).set 0 (.string t.name)).set 1 (.slice Ac t.cols.length cc)).set 2 (.slice Ar t.rows.length cr)
    refine ⟨(HX0.out.trans hx1).only ho (by omega), ?_, (HB1.out.keep (hx1.kept _)).keep (ho.kept fun b _ e => by omega), (HB2.out.keep (hx1.kept _)).keep (ho.kept fun b _ e => by omega), ⟨ho.own hoc.1 (by omega), hoc.2⟩, hor.keep (ho.kept fun b _ e => by omega) (fun b hb hb' => hsep b hb' hb), hsep⟩
    have := (((HB0.out.keep (hx1.kept _)).set 0 (.string t.name)).set 1 (.slice Ac t.cols.length cc)).set 2 (.slice Ar t.rows.length cr)
    simpa using this)
  have q5 := HB0.out.keep (hx1.kept _)
  have k50 := q5.cell (i := 0) rfl
  have k51 := q5.cell (i := 1) rfl
  have k52 := q5.cell (i := 2) rfl
  have kf := q5.frozen
  have kz := q5.lt
  clear hoc hor hsep hx1 q5 HX0 HB0 HB1 HB2 HS0 HW0
  go_upto_region 2 with fail
  obtain ⟨w2, hw2⟩ : ∃ w2, w2 = (((w1.setCell ⟨w.heap.size, 0, none⟩ (.string t.name)).setCell ⟨w.heap.size, 1, none⟩ (.slice Ac t.cols.length cc)).setCell ⟨w.heap.size, 2, none⟩ (.slice Ar t.rows.length cr)) := ⟨_, rfl⟩
  rw [← hw2] at HM1
  rw [← hw2]
  clear hw2 k50 k51 k52 kf kz
  obtain ⟨cols, hcols⟩ : ∃ cols, cols = t.cols := ⟨_, rfl⟩
  obtain ⟨rows, hrows⟩ : ∃ rows, rows = t.rows := ⟨_, rfl⟩
  obtain ⟨nm, hnmE⟩ : ∃ nm, nm = t.name := ⟨_, rfl⟩
  rw [← hcols, ← hrows, ← hnmE] at HM1
  rw [← hcols] at ht1 ht2 HT4
  rw [← hrows] at ht3 HT4
  rw [← hnmE] at hnm
  clear hcols hrows hnmE
  have HM := HM1
  have d0 := HM1.out.box.cell (i := 0) rfl
  have d1 := HM1.out.box.cell (i := 1) rfl
  have d2 := HM1.out.box.cell (i := 2) rfl
  have df := HM1.out.box.frozen
  have dz := HM1.out.box.lt
  have g0 := HM1.out.qb.cell (i := 0) rfl
  have g1 := HM1.out.qb.cell (i := 1) rfl
  have g2 := HM1.out.qb.cell (i := 2) rfl
  have gz := HM1.out.qb.lt
  have HR4 := Lib.hid (show ∀ r ∈ rows, r.length ≤ 4294967296 from fun r hr => by rw [HT4.out r hr]; omega)
  obtain ⟨hc1, hc2⟩ := next_bd q1 8 (by omega)
  go_wp2
  obtain ⟨rows0, hrows0⟩ : ∃ rows0, rows0 = rows := ⟨_, rfl⟩
  have HRO := Lib.hid hrows0
  clear hrows0 d0 d1 d2 df dz g0 g1 g2 gz
  go_loopw [6] (fun i wr => ∃ (k : Nat) (Ar : Option Addr) (cr : Nat) (rows : List (List Val)), k ≤ 95 + N ∧ i = .int .i64 k ∧ rows.length = rows0.length + k ∧ (∀ r ∈ rows, r.length ≤ 4294967296) ∧ OD w q0 q1 q2 nm Ac cc cols Ar cr rows wr) (fun i _ => 95 + N - (intOf i).toNat)
  case atStart => exact ⟨0, Ar, cr, rows, Nat.zero_le _, rfl, by rw [HRO.out]; rfl, HR4.out, HM.out⟩
  case round =>
    rw [← HRO.out] at ht3
    clear HM HM1 HR4 HT4 HRO
    obtain ⟨k, Ar, cr, rows, hk, rfl, hrl, hr4, hm0⟩ := hrel
    have HM := Lib.hid hm0
    have HR4 := Lib.hid hr4
    have HRL := Lib.hid hrl
    have hrl2 : rows.length ≤ 108 := by omega
    have d0 := hm0.box.cell (i := 0) rfl
    have d1 := hm0.box.cell (i := 1) rfl
    have d2 := hm0.box.cell (i := 2) rfl
    have df := hm0.box.frozen
    have dz := hm0.box.lt
    have g0 := hm0.qb.cell (i := 0) rfl
    have g1 := hm0.qb.cell (i := 1) rfl
    have g2 := hm0.qb.cell (i := 2) rfl
    have gz := hm0.qb.lt
    clear hm0 hr4 hrl
    by_cases hlt : k < 95 + N
    · go_upto_region 23 with fail
      refine wp_region_lin_lit (by kernel_rfl) dOdA (by kernel_rfl) (SR (OdAInv w q0 q1 q2 nm Ac cc cols Ar cr rows)) (SR.refl _) (SR.trans _) (SN stOdA) (gOdA w q0 q1 q2 nm Ac cc cols Ar cr rows) (gOdA_st _ _ _ _ _ _ _ _ _ _ _) 0 (SN.zero (by decide)) ⟨?_, ?_, ?_, ?_, ?_, ?_, ?_, ?_, ?_, ?_, trivial⟩ ?_
      · refine LinStep.yes fun vals γ w' ρ hR hN hp hρ hc hf hg => ⟨rfl, ?_⟩
        have hi := hR.inv ⟨by omega, fun _ => ⟨_, HM.out.box.keep (Kept.drew _ _)⟩, fun _ => HM.out.more (Ext.refl _).drew⟩
        have e2 : ρ (.tmp 2) = .pointer (some ⟨w.heap.size, 0, none⟩) := hρ 2
        clear hR hN hp hρ hi
        go_light
        go_simp
        exact ⟨γ, SR.refl _ _ _, fun _ _ _ h => h, rfl⟩
      · refine LinStep.yes fun vals γ w' ρ hR hN hp hρ hc hf hg => ⟨rfl, ?_⟩
        have hi := hR.inv ⟨by omega, fun _ => ⟨_, HM.out.box.keep (Kept.drew _ _)⟩, fun _ => HM.out.more (Ext.refl _).drew⟩
        have e115 : ρ (.tmp 115) = _ := (hρ 115).trans (hp 0 (by decide))
        have hb := (hi.2.2 (by have h : γ < 3 := hN; omega)).box
        have k1 := hb.cell (i := 2) rfl
        clear hR hN hp hρ hi hb
        go_light
        go_simp
        exact ⟨γ, SR.refl _ _ _, fun _ _ _ h => h, rfl⟩
      · refine LinStep.yes fun vals γ w' ρ hR hN hp hρ hc hf hg => ⟨rfl, ?_⟩
        have hi := hR.inv ⟨by omega, fun _ => ⟨_, HM.out.box.keep (Kept.drew _ _)⟩, fun _ => HM.out.more (Ext.refl _).drew⟩
        have e2 : ρ (.tmp 2) = .pointer (some ⟨w.heap.size, 0, none⟩) := hρ 2
        clear hR hN hp hρ hi
        go_light
        go_simp
        exact ⟨γ, SR.refl _ _ _, fun _ _ _ h => h, rfl⟩
      · refine LinStep.yes fun vals γ w' ρ hR hN hp hρ hc hf hg => ⟨rfl, ?_⟩
        have hi := hR.inv ⟨by omega, fun _ => ⟨_, HM.out.box.keep (Kept.drew _ _)⟩, fun _ => HM.out.more (Ext.refl _).drew⟩
        have e117 : ρ (.tmp 117) = _ := (hρ 117).trans (hp 2 (by decide))
        obtain ⟨y, hb⟩ := hi.2.1 (by have h : γ < 4 := hN; omega)
        have k1 := hb.cell (i := 1) rfl
        clear hR hN hp hρ hi hb
        go_light
        go_simp
        exact ⟨γ, SR.refl _ _ _, fun _ _ _ h => h, rfl⟩
      · refine LinStep.yes fun vals γ w' ρ hR hN hp hρ hc hf hg => ⟨rfl, ?_⟩
        have hi := hR.inv ⟨by omega, fun _ => ⟨_, HM.out.box.keep (Kept.drew _ _)⟩, fun _ => HM.out.more (Ext.refl _).drew⟩
        have e118 : ρ (.tmp 118) = _ := (hρ 118).trans (hp 3 (by decide))
        clear hR hN hp hρ hi
        go_light
        go_simp
        exact ⟨γ, SR.refl _ _ _, fun _ _ _ h => h, rfl⟩
      · refine LinStep.yes fun vals γ w' ρ hR hN hp hρ hc hf hg => ⟨rfl, ?_⟩
        have hi := hR.inv ⟨by omega, fun _ => ⟨_, HM.out.box.keep (Kept.drew _ _)⟩, fun _ => HM.out.more (Ext.refl _).drew⟩
        have e119 : ρ (.tmp 119) = _ := (hρ 119).trans (hp 4 (by decide))
        have h0 : γ = 0 := by have h : γ < 1 := hN; omega
        subst h0
        have HI := Lib.hid (hi.2.2 (by omega))
        have hmk := run_mkV cols.length (by omega)
        clear hR hN hp hρ hi
        go_light
        go_simp
        have hx1 : Ext w' (w'.alloc (.cells (zeroRow cols.length) 33)) := (Ext.refl _).alloc _
        have hod := HI.out.more hx1
        exact ⟨1, SR.up (by omega) ⟨by omega, fun _ => ⟨_, hod.box⟩, fun _ => hod⟩, SN.up (by omega) (by decide) rfl, _, rfl, by omega, fun _ => RRpush.of HI.out.rows (fun b hb => (HI.out.cols.1.blk hb).2) (OwnVs.zeros w' cols.length 2 (by decide) (by omega)) hx1⟩
      · refine LinStep.yes fun vals γ w' ρ hR hN hp hρ hc hf hg => ⟨rfl, ?_⟩
        have hi := hR.inv ⟨by omega, fun _ => ⟨_, HM.out.box.keep (Kept.drew _ _)⟩, fun _ => HM.out.more (Ext.refl _).drew⟩
        obtain ⟨g', g5, hr1, hpu⟩ := hp 5 (by decide)
        have e120 : ρ (.tmp 120) = _ := (hρ 120).trans g5
        have h0 : γ = 1 := by have h : γ < 2 := hN; omega
        subst h0
        have HI := Lib.hid (hi.2.2 (by omega))
        have HPU := Lib.hid (hpu rfl)
        clear hR hN hp hρ hi g5 hpu
        go_light
        go_simp
        have hx1 : Ext w' (w'.alloc (.cells #[.slice (some ⟨g', 0, none⟩) cols.length cols.length] 45)) := (Ext.refl _).alloc _
        have hod := HI.out.more hx1
        exact ⟨2, SR.up (by omega) ⟨by omega, fun _ => ⟨_, hod.box⟩, fun _ => hod⟩, SN.up (by omega) (by decide) rfl, _, g', rfl, by omega, fun _ => ⟨Blk.new _ _ _, HPU.out.ext hx1⟩⟩
      · refine LinStep.yes fun vals γ w' ρ hR hN hp hρ hc hf hg => ⟨rfl, ?_⟩
        have hi := hR.inv ⟨by omega, fun _ => ⟨_, HM.out.box.keep (Kept.drew _ _)⟩, fun _ => HM.out.more (Ext.refl _).drew⟩
        obtain ⟨g', g'', g6, hr2, hbk⟩ := hp 6 (by decide)
        have e121 : ρ (.tmp 121) = _ := (hρ 121).trans g6
        have e116 : ρ (.tmp 116) = _ := (hρ 116).trans (hp 1 (by decide))
        have h0 : γ = 2 := by have h : γ < 3 := hN; omega
        subst h0
        obtain ⟨hbk1, hbk2⟩ := hbk rfl
        have hod := hi.2.2 (by omega)
        obtain ⟨hs, ho1, huse⟩ := hbk2.use
        refine lin_app (.tmp 116) (.tmp 121) rfl tiR e116 ho1 e121 hbk1.rd rfl (by simp [Value.oneCell']) (by omega) (by decide) (by have h1 := hod.res.lt; omega) ?_
        intro A4 c4 w4 hown4 hg4 hat4
        have hoda := hod.appR hg4 (huse w4 A4 c4 (by rw [List.length_replicate]; exact hown4) hg4 hat4) hat4
        exact ⟨3, SR.up (by omega) ⟨by omega, fun _ => hoda.box, fun h => absurd h (by omega)⟩, SN.up (by omega) (by decide) rfl, A4, c4, rfl, by omega, fun _ => hoda⟩
      · refine LinStep.yes fun vals γ w' ρ hR hN hp hρ hc hf hg => ⟨rfl, ?_⟩
        have hi := hR.inv ⟨by omega, fun _ => ⟨_, HM.out.box.keep (Kept.drew _ _)⟩, fun _ => HM.out.more (Ext.refl _).drew⟩
        have e2 : ρ (.tmp 2) = .pointer (some ⟨w.heap.size, 0, none⟩) := hρ 2
        clear hR hN hp hρ hi
        go_light
        go_simp
        exact ⟨γ, SR.refl _ _ _, fun _ _ _ h => h, rfl⟩
      · refine LinStep.yes fun vals γ w' ρ hR hN hp hρ hc hf hg => ⟨rfl, ?_⟩
        have hi := hR.inv ⟨by omega, fun _ => ⟨_, HM.out.box.keep (Kept.drew _ _)⟩, fun _ => HM.out.more (Ext.refl _).drew⟩
        obtain ⟨A4, c4, g7, hr3, hda⟩ := hp 7 (by decide)
        have e122 : ρ (.tmp 122) = _ := (hρ 122).trans g7
        have e123 : ρ (.tmp 123) = _ := (hρ 123).trans (hp 8 (by decide))
        have h0 : γ = 3 := by have h : γ < 4 := hN; omega
        subst h0
        have HA := Lib.hid (hda rfl)
        obtain ⟨y, hy⟩ := (hda rfl).box
        have k0 := hy.cell (i := 2) rfl
        have kf := hy.frozen
        have kz := hy.lt
        clear hR hN hp hρ hi g7 hda hy
        go_light
        go_simp
        have hs := HA.out.store
        rw [List.length_append, List.length_singleton] at hs
        exact ⟨4, SR.up (by omega) ⟨by omega, fun h => absurd h (by omega), fun h => absurd h (by omega)⟩, SN.up (by omega) (by decide) rfl, by omega, fun _ => ⟨A4, c4, hs⟩⟩
      · intro vals γ w' hR hG
        have hi := hR.inv ⟨by omega, fun _ => ⟨_, HM.out.box.keep (Kept.drew _ _)⟩, fun _ => HM.out.more (Ext.refl _).drew⟩
        obtain ⟨h4, h5⟩ := hG 9 (by decide)
        obtain ⟨A4, c4, hm1⟩ := h5 (by have := hi.1; omega)
        have HM1 := Lib.hid hm1
        clear hR hG hi h4 h5 hm1 HM
        simp only [lexFrame, Act.put, List.setIfInBounds_toArray, List.set_cons_succ, List.set_cons_zero, Nat.zero_add, Nat.reduceAdd]
        generalize vals 0 = u0, vals 1 = u1, vals 2 = u2, vals 3 = u3, vals 4 = u4, vals 5 = u5, vals 6 = u6, vals 7 = u7, vals 8 = u8, vals 9 = u9
        go_wp2
        go_roundw
        case rel => exact ⟨k + 1, A4, c4, _, by omega, by go_num, by rw [List.length_append, HRL.out]; simp; omega, lens_app HR4.out ht2, HM1.out⟩
        case measure => simp [intOf]; omega
    · go_upto_region 27 with fail
      obtain ⟨wf, hwf⟩ : ∃ wf, wf = wr := ⟨_, rfl⟩
      have HF := Lib.hid (show ∃ (t : Look) (A : Option Addr) (c : Nat) (B : Option Addr) (e : Nat), OF w t A c B e wf by rw [hwf]; exact ⟨_, _, _, _, _, HM.out.fin hnm (by omega) (by omega) HR4.out⟩)
      rw [← hwf]
      clear hwf
      obtain ⟨t', A', c', B', e', hf⟩ := HF.out
      have HF := Lib.hid hf
      have f0 := hf.box.cell (i := 0) rfl
      have f1 := hf.box.cell (i := 1) rfl
      have f2 := hf.box.cell (i := 2) rfl
      have r0 := hf.res.cell (i := 0) rfl
      have r1 := hf.res.cell (i := 1) rfl
      have r2 := hf.res.cell (i := 2) rfl
      have rf := hf.res.frozen
      have rz := hf.res.lt
      clear hf d0 d1 d2 df dz g0 g1 g2 gz
      go_wp2
      all_goals refine bodyPost_ret (v := (.agg #[.string t'.name, .slice A' t'.cols.length c', .slice B' t'.rows.length e'])) (by simp [results, Tryz.results11, go_sem, r0, r1, r2, rf, rz]) rfl ⟨t', A', c', B', e', rfl, HF.out.cap, RL.mono (RL.keep HF.out.rl (K3 ?_)) fun b _ hb => by unfold Fresh; omega, E3 ?_⟩
      all_goals first | exact ⟨HF.out.ext, by omega⟩ | omega
end Go.Proofs.YtcmmkeiiapbgcaaGreatDoor
/- The reference's numbers of bytes: Canon, Int, Of, small. No conditions but bounds on sizes. -/
namespace Go.Proofs.YtcmmkeiiapbgcaaGreatDoor
open Go Go.RowKit

/-- The number that bytes are, the most significant one first. -/
def nvl (l : List UInt8) : Nat := l.foldl (fun a b => a * 256 + b.toNat) 0
def nval (s : ByteArray) : Nat := nvl s.data.toList
/-- No zero in front. -/
def canB (s : ByteArray) : Prop := s.data.toList.head? ≠ some 0
theorem nvl_snoc (l : List UInt8) (b : UInt8) : nvl (l ++ [b]) = nvl l * 256 + b.toNat := by simp [nvl, List.foldl_append]
theorem nvl_from (l : List UInt8) (a : Nat) : l.foldl (fun a b => a * 256 + b.toNat) a = a * 256 ^ l.length + nvl l := by
  induction l generalizing a with
  | nil => simp [nvl]
  | cons b l ih =>
    simp only [List.foldl_cons, nvl, List.length_cons]
    rw [ih, ih (0 * 256 + b.toNat)]
    rw [Nat.pow_succ, Nat.zero_mul, Nat.zero_add]
    have : (a * 256 + b.toNat) * 256 ^ l.length = a * (256 ^ l.length * 256) + b.toNat * 256 ^ l.length := by
      rw [Nat.add_mul, Nat.mul_assoc, Nat.mul_comm 256]
    omega
theorem nvl_cons (b : UInt8) (l : List UInt8) : nvl (b :: l) = b.toNat * 256 ^ l.length + nvl l := by
  have := nvl_from l (0 * 256 + b.toNat)
  simpa [nvl] using this
theorem nvl_lt : ∀ l : List UInt8, nvl l < 256 ^ l.length
  | [] => by simp [nvl]
  | b :: l => by
    rw [nvl_cons, List.length_cons, Nat.pow_succ]
    have h1 := nvl_lt l
    have h2 : b.toNat < 256 := b.toNat_lt
    have h3 : b.toNat * 256 ^ l.length ≤ 255 * 256 ^ l.length := Nat.mul_le_mul_right _ (by omega)
    omega
theorem nvl_zeros : ∀ (k : Nat) (l : List UInt8), (∀ j (h : j < l.length), j < k → l[j] = 0) → nvl l = nvl (l.drop k)
  | 0, l, _ => rfl
  | k + 1, [], _ => by simp
  | k + 1, b :: l, h => by
    have h0 : b = 0 := h 0 (by simp) (by omega)
    subst h0
    rw [nvl_cons, List.drop_succ_cons]
    have := nvl_zeros k l fun j hj hk => h (j + 1) (by simpa using hj) (by omega)
    rw [← this]
    simp
/-- A canonical number has as many bytes as it needs. -/
theorem nvl_low (b : UInt8) (l : List UInt8) (h : b ≠ 0) : 256 ^ l.length ≤ nvl (b :: l) := by
  rw [nvl_cons]
  have h1 : 1 ≤ b.toNat := by
    rcases Nat.eq_zero_or_pos b.toNat with h0 | h0
    · exact absurd (UInt8.toNat_inj.1 (by simpa using h0)) h
    · exact h0
  have := Nat.mul_le_mul_right (256 ^ l.length) h1
  omega
theorem can_size {s : ByteArray} (h : canB s) {k : Nat} : s.size ≤ k ↔ nval s < 256 ^ k := by
  have hsz : s.size = s.data.toList.length := by simp
  unfold canB at h
  unfold nval
  rw [hsz]
  generalize s.data.toList = l at *
  constructor
  · intro hk
    exact Nat.lt_of_lt_of_le (nvl_lt l) (Nat.pow_le_pow_right (by omega) hk)
  · intro hk
    cases l with
    | nil => simp
    | cons b l =>
      have h0 : b ≠ 0 := by simpa using h
      have h1 := nvl_low b l h0
      have h2 : 256 ^ l.length < 256 ^ k := Nat.lt_of_le_of_lt h1 hk
      have := (Nat.pow_lt_pow_iff_right (a := 256) (by omega)).1 h2
      simp
      omega
theorem can_nil {s : ByteArray} (h : canB s) : s.size = 0 ↔ nval s = 0 := by
  have := can_size h (k := 0)
  rw [Nat.pow_zero] at this
  omega
theorem bs_toList_at (s : ByteArray) (k : Nat) (h : k < s.size) : s.data.toList[k]'(by simpa using h) = s[k] := by simp; rfl

def SameT (w : World) (s : ByteArray) (e : Ending) (w' : World) : Prop := e = .returned (.string s) ∧ w = w'
def dropZ (s : ByteArray) (k : Nat) : Prop := ∀ j (h : j < s.size), j < k → s[j] = 0
theorem canon_of {s : ByteArray} {k : Nat} (hk : k ≤ s.size) (hz : dropZ s k) (hn : ∀ h : k < s.size, s[k] ≠ 0) : nval (s.extract k s.size) = nval s ∧ canB (s.extract k s.size) ∧ (s.extract k s.size).size ≤ s.size := by
  have he : (s.extract k s.size).data.toList = s.data.toList.drop k := by
    simp [ByteArray.data_extract]
    exact List.take_of_length_le (by simp)
  refine ⟨?_, ?_, by simp⟩
  · unfold nval
    rw [he]
    exact (nvl_zeros k _ fun j h hj => by rw [bs_toList_at s j (by simpa using h)]; exact hz j (by simpa using h) hj).symm
  · unfold canB
    rw [he, List.head?_drop]
    rcases Nat.lt_or_ge k s.size with h | h
    · rw [List.getElem?_eq_getElem (by simpa using h), bs_toList_at s k h]
      intro hh
      exact hn h (Option.some.inj hh)
    · rw [List.getElem?_eq_none (by simpa using h)]
      simp

set_option maxRecDepth 100000 in
set_option maxHeartbeats 400000 in
theorem r01_Canon (s : ByteArray) (hs : s.size ≤ 4294967296) (w : World) : Calls Tryz.prog 149 #[.string s] w (fun e w' => ∃ r, SameT w r e w' ∧ nval r = nval s ∧ canB r ∧ r.size ≤ s.size) := by
  go_enter Tryz.func149, Tryz.ntmps149
  go_wp2
  go_loop [3] (fun i => ∃ k : Nat, k ≤ s.size ∧ i = .int .i64 k ∧ dropZ s k) (fun i => s.size - (intOf i).toNat)
  case atStart => exact ⟨0, Nat.zero_le _, rfl, fun _ _ h => by omega⟩
  case round =>
    obtain ⟨k, hk, rfl, hz⟩ := hrel
    have HZ := Lib.hid hz
    clear hz
    by_cases hlt : k < s.size
    · by_cases h0 : s[k] = 0
      · have h0' : ((s[k].toNat : Int) == 0) = true := by simp [h0]
        have H0 := Lib.hid h0
        clear h0
        go_wp2
        go_round
        case rel =>
          refine ⟨k + 1, by omega, by go_num, fun j h hj => ?_⟩
          by_cases hjk : j = k
          · subst hjk; exact H0.out
          · exact HZ.out j h (by omega)
        case measure => simp [intOf]; omega
      · have h0' : ((s[k].toNat : Int) == 0) = false := by
          have : s[k].toNat ≠ 0 := fun e => h0 (UInt8.toNat_inj.1 (by simpa using e))
          simp; omega
        have H0 := Lib.hid (canon_of hk HZ.out fun _ => h0)
        clear h0
        go_wp2
        go_ret
        exact ⟨_, ⟨rfl, rfl⟩, H0.out⟩
    · have H0 := Lib.hid (canon_of hk HZ.out fun h => absurd h hlt)
      go_wp2
      go_ret
      exact ⟨_, ⟨rfl, rfl⟩, H0.out⟩
end Go.Proofs.YtcmmkeiiapbgcaaGreatDoor
/- The reference's numbers of bytes: Int, small, Of, Add (of small numbers), natural. Conditions: bounds on sizes. -/
namespace Go.Proofs.YtcmmkeiiapbgcaaGreatDoor
open Go Go.RowKit

theorem nvl_app (l m : List UInt8) : nvl (l ++ m) = nvl l * 256 ^ m.length + nvl m := by
  have := nvl_from m (nvl l)
  rw [← this]
  simp [nvl, List.foldl_append]
theorem nvl_take_le (l : List UInt8) (k : Nat) : nvl (l.take k) ≤ nvl l := by
  have h := nvl_app (l.take k) (l.drop k)
  rw [List.take_append_drop] at h
  have : 1 ≤ 256 ^ (l.drop k).length := Nat.one_le_pow _ _ (by omega)
  have := Nat.mul_le_mul_left (nvl (l.take k)) this
  omega
theorem nvl_take_succ (s : ByteArray) (k : Nat) (h : k < s.size) : nvl (s.data.toList.take (k + 1)) = nvl (s.data.toList.take k) * 256 + s[k].toNat := by
  rw [List.take_succ_eq_append_getElem (by simpa using h), nvl_snoc, bs_toList_at s k h]
theorem can_eight {s : ByteArray} (h : s.size = 8) : nval s < 9223372036854775808 ↔ s[0].toNat ≤ 127 := by
  have h0 : s.data.toList.head? = some s[0] := by rw [List.head?_eq_getElem?, List.getElem?_eq_getElem (by simp; omega), bs_toList_at s 0 (by omega)]
  have hl : s.data.toList.length = 8 := by simpa using h
  unfold nval
  generalize s.data.toList = l at *
  cases l with
  | nil => simp at hl
  | cons b l =>
    have hb : b = s[0] := by simpa using h0
    rw [← hb, nvl_cons]
    have hl7 : l.length = 7 := by simpa using hl
    have := nvl_lt l
    rw [hl7] at *
    omega
def intR (s : ByteArray) : Ending := .returned (.tuple #[.int .i64 (if nval s < 9223372036854775808 then (nval s : Int) else 0), .bool (decide (nval s < 9223372036854775808))])

set_option maxRecDepth 100000 in
set_option maxHeartbeats 1000000 in
theorem r01_Int (s : ByteArray) (hs : s.size ≤ 4294967296) (w : World) : Calls Tryz.prog 132 #[.string s] w (fun e w' => e = intR s ∧ w = w') := by
  go_enter Tryz.func132, Tryz.ntmps132
  go_wp2_with fail
  refine (r01_Canon s hs _).mono ?_
  rintro e1 w1 ⟨r, ⟨rfl, rfl⟩, hv, hc, hsz⟩
  have HR := Lib.hid (show intR r = intR s by unfold intR; rw [hv])
  have h8 := can_size hc (k := 8)
  rw [show (256 : Nat) ^ 8 = 18446744073709551616 by decide] at h8
  have hr : r.size ≤ 4294967296 := by omega
  have HC := Lib.hid hc
  clear hv hsz hc
  by_cases hb : nval r < 9223372036854775808
  · have HB := Lib.hid (show intR s = .returned (.tuple #[.int .i64 (nval r : Int), .bool true]) by rw [← HR.out]; simp [intR, hb])
    have hb8 : r.size ≤ 8 := h8.2 (by omega)
    have n8 : ¬ (8 : Int) < (r.size : Int) := by omega
    have HN := Lib.hid hb
    have hgo : ∀ k, k < r.size → nvl (r.data.toList.take (k + 1)) < 9223372036854775808 := fun k _ => Nat.lt_of_le_of_lt (nvl_take_le _ _) hb
    have HGO := Lib.hid hgo
    by_cases he : r.size = 8
    · have e8 : ((r.size : Int) == 8) = true := by simp [he]
      have h0 := (can_eight he).1 hb
      have p0 : 0 < r.size := by omega
      have n127 : ¬ (127 : Int) < (r[0].toNat : Int) := by omega
      clear h8 hb hgo h0
      go_wp2
      go_loop [4, 5] (fun n i => ∃ k : Nat, k ≤ r.size ∧ i = .int .i64 k ∧ n = .int .i64 (nvl (r.data.toList.take k) : Int)) (fun n i => r.size - (intOf i).toNat)
      case atStart => exact ⟨0, Nat.zero_le _, rfl, rfl⟩
      case round =>
        obtain ⟨k, hk, rfl, rfl⟩ := hrel
        by_cases hlt : k < r.size
        · have h1 := HGO.out k hlt
          have h2 := nvl_take_succ r k hlt
          have HS := Lib.hid h2
          obtain ⟨n, hn⟩ : ∃ n, n = nvl (r.data.toList.take k) := ⟨_, rfl⟩
          rw [← hn] at HS h2 ⊢
          rw [h2] at h1
          clear h2
          go_wp2
          go_round
          case rel => exact ⟨k + 1, by omega, by go_num, by rw [HS.out]; go_num⟩
          case measure => simp [intOf]; omega
        · have hf : nvl (r.data.toList.take k) = nval r := by rw [List.take_of_length_le (by simp; omega)]; rfl
          rw [hf]
          go_wp2
          refine bodyPost_ret (v := .tuple #[.int .i64 (nval r : Int), .bool true]) (by simp [results, Tryz.results132, go_sem]) rfl ⟨HB.out.symm, rfl⟩
    · have e8 : ((r.size : Int) == 8) = false := by simp; omega
      clear h8 hb hgo
      go_wp2
      go_loop [4, 5] (fun n i => ∃ k : Nat, k ≤ r.size ∧ i = .int .i64 k ∧ n = .int .i64 (nvl (r.data.toList.take k) : Int)) (fun n i => r.size - (intOf i).toNat)
      case atStart => exact ⟨0, Nat.zero_le _, rfl, rfl⟩
      case round =>
        obtain ⟨k, hk, rfl, rfl⟩ := hrel
        by_cases hlt : k < r.size
        · have h1 := HGO.out k hlt
          have h2 := nvl_take_succ r k hlt
          have HS := Lib.hid h2
          obtain ⟨n, hn⟩ : ∃ n, n = nvl (r.data.toList.take k) := ⟨_, rfl⟩
          rw [← hn] at HS h2 ⊢
          rw [h2] at h1
          clear h2
          go_wp2
          go_round
          case rel => exact ⟨k + 1, by omega, by go_num, by rw [HS.out]; go_num⟩
          case measure => simp [intOf]; omega
        · have hf : nvl (r.data.toList.take k) = nval r := by rw [List.take_of_length_le (by simp; omega)]; rfl
          rw [hf]
          go_wp2
          refine bodyPost_ret (v := .tuple #[.int .i64 (nval r : Int), .bool true]) (by simp [results, Tryz.results132, go_sem]) rfl ⟨HB.out.symm, rfl⟩
  · have HB := Lib.hid (show intR s = .returned (.tuple #[.int .i64 0, .bool false]) by rw [← HR.out]; simp [intR, hb])
    by_cases h9 : 8 < r.size
    · have n8 : (8 : Int) < (r.size : Int) := by omega
      clear h8 hb
      go_wp2
      refine bodyPost_ret (v := .tuple #[.int .i64 0, .bool false]) (by simp [results, Tryz.results132, go_sem]) rfl ⟨HB.out.symm, rfl⟩
    · have n8 : ¬ (8 : Int) < (r.size : Int) := by omega
      have he : r.size = 8 := by
        rcases Nat.lt_or_ge r.size 8 with h | h
        · have := (can_size HC.out (k := 7)).1 (by omega)
          rw [show (256 : Nat) ^ 7 = 72057594037927936 by decide] at this
          omega
        · omega
      have e8 : ((r.size : Int) == 8) = true := by simp [he]
      have p0 : 0 < r.size := by omega
      have n127 : (127 : Int) < (r[0].toNat : Int) := by
        have := can_eight he
        omega
      clear h8 hb
      go_wp2
      refine bodyPost_ret (v := .tuple #[.int .i64 0, .bool false]) (by simp [results, Tryz.results132, go_sem]) rfl ⟨HB.out.symm, rfl⟩

def smallR (s : ByteArray) (k : Nat) : Ending := .returned (.tuple #[.int .i64 (if nval s < 256 ^ k then (nval s : Int) else 0), .bool (decide (nval s < 256 ^ k))])
set_option maxRecDepth 100000 in
set_option maxHeartbeats 1000000 in
theorem r01_small (s : ByteArray) (hs : s.size ≤ 4294967296) (k : Nat) (hk : k ≤ 7) (w : World) : Calls Tryz.prog 150 #[.string s, .int .i64 (k : Int)] w (fun e w' => e = smallR s k ∧ w = w') := by
  go_enter Tryz.func150, Tryz.ntmps150
  go_wp2_with fail
  refine (r01_Canon s hs _).mono ?_
  rintro e1 w1 ⟨r, ⟨rfl, rfl⟩, hv, hc, hsz⟩
  have hk8 := can_size hc (k := k)
  rw [hv] at hk8
  by_cases hb : r.size ≤ k
  · have n8 : ¬ (k : Int) < (r.size : Int) := by omega
    have hb2 := hk8.1 hb
    have h63 : nval s < 9223372036854775808 := by
      refine Nat.lt_of_lt_of_le hb2 (Nat.le_trans (Nat.pow_le_pow_right (by omega) hk) ?_)
      decide
    have HB := Lib.hid (show smallR s k = intR s by simp [smallR, intR, hb2, h63])
    have HI := Lib.hid (show intR s = .returned (.tuple #[.int .i64 (nval s : Int), .bool true]) by simp [intR, h63])
    clear hk8 hb2 h63 hv hc
    go_wp2_with fail
    refine (r01_Int s hs _).mono ?_
    rintro e1 w1 ⟨he, rfl⟩
    rw [HI.out] at he
    subst he
    go_wp2
    refine bodyPost_ret (v := .tuple #[.int .i64 (nval s : Int), .bool true]) (by simp [results, Tryz.results150, go_sem]) rfl ⟨by rw [HB.out, HI.out], rfl⟩
  · have n8 : (k : Int) < (r.size : Int) := by omega
    have HB := Lib.hid (show smallR s k = .returned (.tuple #[.int .i64 0, .bool false]) by
      have : ¬ nval s < 256 ^ k := fun h => hb (hk8.2 h)
      simp [smallR, this])
    clear hk8 hv hc
    go_wp2
    refine bodyPost_ret (v := .tuple #[.int .i64 0, .bool false]) (by simp [results, Tryz.results150, go_sem]) rfl ⟨HB.out.symm, rfl⟩
end Go.Proofs.YtcmmkeiiapbgcaaGreatDoor
/- The reference's numbers of bytes: Of, Add (of small numbers), natural. Conditions: bounds on sizes. -/
namespace Go.Proofs.YtcmmkeiiapbgcaaGreatDoor
open Go Go.RowKit

theorem infoU8 : (Tryz.prog.info? 5).map (fun i => (i.zero, i.size, i.bytes)) = some (some (.int .u8 0), 1, 1) := by kernel_rfl
theorem tiU8 : TI Tryz.prog 159 5 1 1 := TI.mk_ Tryz.underlying159 infoU8 rfl (by decide)
/-- The first j of eight bytes of a number. -/
def ofL (n j : Nat) : List Int := (List.range j).map fun i => ((n / 2 ^ (56 - 8 * i) % 256 : Nat) : Int)
theorem ofL_len (n j : Nat) : (ofL n j).length = j := by simp [ofL]
theorem ofL_succ (n j : Nat) : ofL n (j + 1) = ofL n j ++ [((n / 2 ^ (56 - 8 * j) % 256 : Nat) : Int)] := by simp [ofL, List.range_succ]
theorem nval_nums (n : Nat) : ∀ j, j ≤ 8 → nval (strOfNums (ofL n j)) = n / 2 ^ (64 - 8 * j) % 256 ^ j
  | 0, _ => by simp [nval, strOfNums, ofL, nvl, Nat.mod_one]
  | j + 1, h => by
    have ih := nval_nums n j (by omega)
    unfold nval at ih ⊢
    rw [strOfNums_data] at ih ⊢
    rw [ofL_succ, List.map_append, List.map_cons, List.map_nil, nvl_snoc, ih]
    have h1 : (UInt8.ofNat ((n / 2 ^ (56 - 8 * j) % 256 : Nat) : Int).toNat).toNat = n / 2 ^ (56 - 8 * j) % 256 := by
      rw [Int.toNat_natCast, UInt8.toNat_ofNat']
      omega
    rw [h1, show 64 - 8 * (j + 1) = 56 - 8 * j by omega]
    have h2 : 2 ^ (64 - 8 * j) = 2 ^ (56 - 8 * j) * 256 := by
      rw [show 64 - 8 * j = (56 - 8 * j) + 8 by omega, Nat.pow_add]
    rw [h2, ← Nat.div_div_eq_div_mul, Nat.pow_succ]
    generalize n / 2 ^ (56 - 8 * j) = m
    rw [Nat.mul_comm (256 ^ j) 256, Nat.mod_mul]
    omega
theorem nval_of (n : Nat) (h : n < 18446744073709551616) : nval (strOfNums (ofL n 8)) = n := by
  rw [nval_nums n 8 (by omega)]
  simp
  omega
theorem fit_bytes (n j : Nat) (i : Nat) (h : i < j) : (ofL n j).getD i 0 = ((n / 2 ^ (56 - 8 * i) % 256 : Nat) : Int) := by
  simp [ofL, h]
def RetT (w : World) (n : Nat) (e : Ending) (w' : World) : Prop := ∃ r, e = .returned (.string r) ∧ nval r = n ∧ canB r ∧ r.size ≤ 4294967296 ∧ Ext w w'

set_option maxRecDepth 100000 in
set_option maxHeartbeats 1000000 in
theorem r01_Of_pos (n : Nat) (h0 : 0 < n) (hn : n ≤ 9223372036854775807) (w : World) : Calls Tryz.prog 131 #[.int .i64 (n : Int)] w (RetT w n) := by
  have hp : (0 : Int) < (n : Int) := by omega
  go_enter Tryz.func131, Tryz.ntmps131
  go_wp2
  go_loopw [3, 4] (fun b i wr => ∃ (j : Nat) (A : Option Addr) (c : Nat), j ≤ 8 ∧ i = .int .i64 (56 - 8 * (j : Int)) ∧ b = .slice A j c ∧ Ext w wr ∧ Own wr w.heap.size 5 1 A j c ((ofL n j).map (Value.int .u8))) (fun _ i _ => (intOf i + 8).toNat)
  case atStart => exact ⟨0, none, 0, by omega, rfl, rfl, Ext.refl _, Own.nil _ _ _ _⟩
  case round =>
    obtain ⟨j, A, c, hj, rfl, rfl, hext, hown⟩ := hrel
    have HE := Lib.hid hext
    have HOWN := Lib.hid hown
    by_cases hlt : j < 8
    · obtain ⟨m, hm⟩ : ∃ m : Nat, m = 56 - 8 * j := ⟨_, rfl⟩
      have hm2 : 56 - 8 * (j : Int) = (m : Int) := by omega
      have hm3 : (m : Int) ≤ 64 := by omega
      have hm4 : (0 : Int) ≤ (m : Int) := by omega
      rw [hm2]
      have hby : (n : Int) / 2 ^ m % 256 = ((n / 2 ^ (56 - 8 * j) % 256 : Nat) : Int) := by rw [← hm]; simp
      have HBY := Lib.hid hby
      have HM := Lib.hid hm
      have hown2 := hown.ext ((Ext.refl wr).alloc (.cells #[.int .u8 ((n : Int) / 2 ^ m % 256)] 5))
      have HO2 := Lib.hid hown2
      have hsz := hext.size
      clear hext hown hown2 hby hm hm2
      go_wp2_with (at_builtin; go_must (refine wpList_app rfl (.tmp 13) (.tmp 18) rfl tiU8 rfl HO2.out rfl (Blk.rd (Blk.new _ _ _)) rfl (by simp [Value.oneCell']) (by omega) (by decide) (by simp; omega) ?_); intro A4 c4 w4 hown4 hg4 hat4)
      go_roundw
      case rel =>
        refine ⟨j + 1, A4, c4, by omega, by have := HM.out; go_num, rfl, ?_, ?_⟩
        · exact (HE.out.alloc _).grown hg4 fun k hk => (HO2.out.blk hk).1
        · rw [ofL_succ, List.map_append, ← HBY.out]
          exact hown4
      case measure => have := HM.out; simp [intOf]; omega
    · obtain rfl : j = 8 := by omega
      rcases hown.2 with ⟨hv, hn0⟩ | ⟨g, cap, cur, hv, hb, hh, hnc, hcm, hcs, ht⟩
      · omega
      obtain ⟨rfl, rfl⟩ : A = some ⟨g, 0, none⟩ ∧ c = cap := by injection hv with h1 _ h2; exact ⟨h1, h2⟩
      have hcv := run_convert_bytes_arg (P := Tryz.prog) wr 159 5 Tryz.underlying159 Tryz.underlying5 g 0 8 c (ofL n 8) (ofL_len _ _) (fun i hi => by
        obtain ⟨b, o, hA, -, hc⟩ := (Own.rd hown).at_ (k := i) (u := .int .u8 ((ofL n 8).getD i 0)) (by
          rw [List.getElem?_map, List.getElem?_eq_getElem (by rw [ofL_len]; exact hi)]
          simp [List.getD, List.getElem?_eq_getElem (show i < (ofL n 8).length by rw [ofL_len]; exact hi)])
        injection hA with hA
        injection hA with h1 h2
        subst h1 h2
        exact hc) 118 Tryz.underlying118
      have hneg : (56 - 8 * ((8 : Nat) : Int)) = -8 := by omega
      rw [hneg]
      clear hown hext hv hb hh hnc hcm hcs ht hneg
      go_wp2_with fail
      refine (r01_Canon (strOfNums (ofL n 8)) (by rw [strOfNums_size, ofL_len]; omega) _).mono ?_
      rintro e1 w1 ⟨r, ⟨rfl, rfl⟩, hv, hc, hsz⟩
      have HV := Lib.hid (hv.trans (nval_of n (by omega)))
      have HC := Lib.hid hc
      rw [strOfNums_size, ofL_len] at hsz
      clear hv hc
      go_wp2
      go_ret
      exact ⟨r, rfl, HV.out, HC.out, by omega, HE.out⟩
set_option maxRecDepth 100000 in
set_option maxHeartbeats 1000000 in
theorem r01_Of_zero (w : World) : Calls Tryz.prog 131 #[.int .i64 0] w (RetT w 0) := by
  have hcv := run_convert_bytes_nil (P := Tryz.prog) w 159 5 Tryz.underlying159 Tryz.underlying5 0 0 118 Tryz.underlying118
  go_enter Tryz.func131, Tryz.ntmps131
  go_wp2
  go_loop [3, 4] (fun b i => b = .slice none 0 0 ∧ i = .int .i64 56) (fun _ _ => 0)
  case atStart => exact ⟨rfl, rfl⟩
  case round =>
    obtain ⟨rfl, rfl⟩ := hrel
    go_wp2_with fail
    refine (r01_Canon ByteArray.empty (by simp) _).mono ?_
    rintro e1 w1 ⟨r, ⟨rfl, rfl⟩, hv, hc, hsz⟩
    go_wp2
    go_ret
    exact ⟨r, rfl, hv, hc, by have : ByteArray.empty.size = 0 := rfl; omega, Ext.refl _⟩
theorem r01_Of (n : Nat) (hn : n ≤ 9223372036854775807) (w : World) : Calls Tryz.prog 131 #[.int .i64 (n : Int)] w (RetT w n) := by
  rcases Nat.eq_zero_or_pos n with h | h
  · subst h; exact r01_Of_zero w
  · exact r01_Of_pos n h hn w

theorem small_yes {s : ByteArray} {k : Nat} (h : nval s < 256 ^ k) : smallR s k = .returned (.tuple #[.int .i64 (nval s : Int), .bool true]) := by simp [smallR, h]
theorem small_no {s : ByteArray} {k : Nat} (h : ¬ nval s < 256 ^ k) : smallR s k = .returned (.tuple #[.int .i64 0, .bool false]) := by simp [smallR, h]
set_option maxRecDepth 100000 in
set_option maxHeartbeats 1000000 in
theorem r01_Add_small (a b : ByteArray) (ha : a.size ≤ 4294967296) (hb : b.size ≤ 4294967296) (ha7 : nval a < 256 ^ 7) (hb7 : nval b < 256 ^ 7) (w : World) : Calls Tryz.prog 134 #[.string a, .string b] w (RetT w (nval a + nval b)) := by
  have e7 : (256 : Nat) ^ 7 = 72057594037927936 := by decide
  have HA := Lib.hid (small_yes ha7)
  have HB := Lib.hid (small_yes hb7)
  rw [e7] at ha7 hb7
  clear e7
  go_enter Tryz.func134, Tryz.ntmps134
  go_wp2_with fail
  refine (r01_small a ha 7 (by omega) _).mono ?_
  rintro e1 w1 ⟨he, rfl⟩
  rw [HA.out] at he
  subst he
  go_wp2_with fail
  refine (r01_small b hb 7 (by omega) _).mono ?_
  rintro e1 w1 ⟨he, rfl⟩
  rw [HB.out] at he
  subst he
  go_wp2_with fail
  have := r01_Of (nval a + nval b) (by omega) w
  rw [Int.natCast_add] at this
  refine this.mono ?_
  rintro e1 w1 ⟨r, rfl, h1, h2, h3, h4⟩
  have H1 := Lib.hid h1
  have H2 := Lib.hid h2
  have H4 := Lib.hid h4
  clear h1 h2 h4 this
  go_wp2
  go_ret
  exact ⟨r, rfl, H1.out, H2.out, h3, H4.out⟩
set_option maxRecDepth 100000 in
set_option maxHeartbeats 1000000 in
theorem r04_natural (n : Int) (h1 : -72057594037927936 ≤ n) (h2 : n ≤ 72057594037927936) (w : World) : Calls Tryz.prog 137 #[.int .i64 n] w (RetT w n.natAbs) := by
  by_cases h0 : 0 ≤ n
  · obtain ⟨m, rfl⟩ : ∃ m : Nat, n = (m : Int) := ⟨n.toNat, by omega⟩
    go_enter Tryz.func137, Tryz.ntmps137
    go_wp2_with fail
    refine (r01_Of m (by omega) _).mono ?_
    rintro e1 w1 ⟨r, rfl, g1, g2, g3, g4⟩
    have H1 := Lib.hid g1
    have H2 := Lib.hid g2
    have H4 := Lib.hid g4
    clear g1 g2 g4
    go_wp2
    go_ret
    exact ⟨r, rfl, by rw [H1.out]; simp, H2.out, g3, H4.out⟩
  · obtain ⟨m, hm⟩ : ∃ m : Nat, -(n + 1) = (m : Int) := ⟨(-(n + 1)).toNat, by omega⟩
    have HM := Lib.hid (show m + 1 = n.natAbs by omega)
    have hneg : ¬ (0 : Int) ≤ n := h0
    go_enter Tryz.func137, Tryz.ntmps137
    go_wp2_with fail
    refine (r01_Of m (by omega) _).mono ?_
    rintro e1 w1 ⟨r, rfl, g1, g2, g3, g4⟩
    have H1 := Lib.hid g1
    have H4 := Lib.hid g4
    clear g1 g2 g4
    go_wp2_with fail
    refine (r01_Of 1 (by omega) _).mono ?_
    rintro e1 w2 ⟨r2, rfl, g1, g2, g3', g4⟩
    have H1' := Lib.hid g1
    have H4' := Lib.hid g4
    clear g1 g2 g4
    go_wp2_with fail
    have e7 : (256 : Nat) ^ 7 = 72057594037927936 := by decide
    refine (r01_Add_small r r2 g3 g3' (by rw [H1.out, e7]; omega) (by rw [H1'.out, e7]; omega) _).mono ?_
    rintro e1 w3 ⟨r3, rfl, k1, k2, k3, k4⟩
    have K1 := Lib.hid k1
    have K2 := Lib.hid k2
    have K4 := Lib.hid k4
    clear k1 k2 k4
    go_wp2
    go_ret
    exact ⟨r3, rfl, by rw [K1.out, H1.out, H1'.out]; exact HM.out, K2.out, k3, H4.out.trans (H4'.out.trans K4.out)⟩
end Go.Proofs.YtcmmkeiiapbgcaaGreatDoor
/- An operation of a drawn region whose guard says no. No conditions. -/
namespace Go.Proofs.YtcmmkeiiapbgcaaGreatDoor
open Go Go.RowKit

theorem LinStep.no {Γ : Type} {P : Program} {ops : Array Oper} {D : Nat → List Nat} {R : Γ → World → Γ → World → Prop} {N : Nat → Γ → Prop} {G : Nat → List Value → Γ → World → Prop} {a0 : Act} {γ0 : Γ} {w0 : World} {i : Nat} {o : Oper}
    (h : ∀ (vals : Nat → Value) (γ : Γ) (w : World), (∀ j, j ∈ predsOf o → G j ((D j).map vals) γ w) → linWanted o vals = false ∧ G i ((D i).map (setV vals i undef)) γ w) : LinStep P ops D R N G a0 γ0 w0 i o := by
  intro vals γ w hR hN hp
  obtain ⟨h1, h2⟩ := h vals γ w hp
  rw [if_neg (by rw [h1]; simp)]
  exact h2
theorem arr2 {cs : Array Value} (h : cs.size = 2) (a0 a1 : Value) : (cs.setIfInBounds 0 a0).setIfInBounds 1 a1 = #[a0, a1] := by
  obtain ⟨l⟩ := cs
  match l, h with
  | [_, _], _ => rfl
theorem VarAt.store2 {γ : Gh} {w : World} {al : Nat → Option Nat} {s k t : Nat} {v : Value} (h : VarAt k t 2 v γ w) (hs : al s = some k) (hn : LN al s γ) :
    ∃ g, v = .pointer (some ⟨g, 0, none⟩) ∧ (∃ x0 x1, w.cell? ⟨g, 0, none⟩ = some x0 ∧ w.cell? ⟨g, 1, none⟩ = some x1) ∧ (∀ i, w.frozen? ⟨g, i, none⟩ = false) ∧ g < w.heap.size ∧ γ k = some (some g) ∧ ∀ a0 a1, LR γ w (γ.put k none) ((w.setCell ⟨g, 0, none⟩ a0).setCell ⟨g, 1, none⟩ a1) ∧
      VarIs t v #[a0, a1] (γ.put k none) ((w.setCell ⟨g, 0, none⟩ a0).setCell ⟨g, 1, none⟩ a1) := by
  obtain ⟨g, ⟨l⟩, h1, h2, h3, h4, h5⟩ := h.stored hs hn
  match l, h2 with
  | [x0, x1], h2 =>
    refine ⟨g, h1, ⟨x0, x1, h3.cell rfl, h3.cell rfl⟩, h3.frozen, h3.lt, h4, fun a0 a1 => h5 _ _ (((Only.refl g w).set 0 a0).set 1 a1) ?_ rfl⟩
    have := (h3.set 0 a0).set 1 a1
    rwa [arr2 h2] at this
end Go.Proofs.YtcmmkeiiapbgcaaGreatDoor
