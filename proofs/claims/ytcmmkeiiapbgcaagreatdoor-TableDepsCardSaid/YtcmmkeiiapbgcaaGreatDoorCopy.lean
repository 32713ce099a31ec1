/- Copies: slices.Clone of texts and value.Copy give the same data in new memory alone. No conditions but that the argument reads as data. -/
import Derived.Test.YtcmmkeiiapbgcaaGreatDoorOwn
import Derived.Laws.MakeOwn
import Derived.WalkSpells
namespace Go.Proofs.YtcmmkeiiapbgcaaGreatDoor
open Go Go.RowKit

theorem run_mk {P : Program} {t e sz by_ : Nat} (ti : TI P t e sz by_) (n c : Nat) (hnc : n ≤ c) (hb : by_ * c ≤ 281474976710656) (hby : 0 < by_) :
    ∃ cur : Array Value, (∀ w : World, (Instr.makeSlice t (.int .i64 (n : Int)) (.int .i64 (c : Int))).run P w = .ok (.slice (some ⟨w.heap.size, 0, none⟩) n c) (w.alloc (.cells cur e))) ∧ cur.size = c * sz := by
  obtain ⟨ht, i, z, hi, hz, hsize, hbytes, hzs, hsz⟩ := ti
  refine ⟨madeCells z.cells (c * i.size), fun w => ?_, by simp [madeCells, hsize]⟩
  have hc : c ≤ 281474976710656 := by
    have : 1 * c ≤ by_ * c := Nat.mul_le_mul_right _ hby
    omega
  have hb' : (i.bytes : Int) * (c : Int) ≤ 281474976710656 := by
    rw [hbytes]
    have h : ((by_ * c : Nat) : Int) ≤ 281474976710656 := by omega
    rwa [Int.natCast_mul] at h
  have hr := run_make (P := P) w t e i z ht hi hz .i64 .i64 n c (by omega) (by omega) hb' (by omega)
  simp only [Int.toNat_natCast] at hr
  exact hr
theorem run_mk0 {P : Program} {t e sz by_ : Nat} (ti : TI P t e sz by_) (c : Nat) (hb : by_ * c ≤ 281474976710656) (hby : 0 < by_) :
    ∃ cur : Array Value, (∀ w : World, (Instr.makeSlice t (.int .i64 0) (.int .i64 (c : Int))).run P w = .ok (.slice (some ⟨w.heap.size, 0, none⟩) 0 c) (w.alloc (.cells cur e))) ∧ cur.size = c * sz := by
  have := run_mk ti 0 c (Nat.zero_le _) hb hby
  simpa using this

/-- New memory: blocks from the call's beginning on. -/
def Fresh (w : World) : Nat → Prop := fun b => w.heap.size ≤ b
def RetSs (w : World) (l : List ByteArray) (e : Ending) (w' : World) : Prop := ∃ A' c', e = .returned (.slice A' l.length c') ∧ l.length ≤ c' ∧ Strs w' (Fresh w) A' l ∧ Ext w w'
def RetV (w : World) (S : Nat → Prop) (d : Nat) (x : Val) (e : Ending) (w' : World) : Prop := ∃ A c B e', e = .returned (.agg #[.int .i64 x.kind, .string x.s, .int .i64 x.dn, .int .i64 x.ds, .int .i64 x.n, .slice A x.cols.length c, .slice B x.rows.length e']) ∧ (x.cols.length ≤ c ∧ x.rows.length ≤ e') ∧ RV w' S d x A B ∧ Ext w w'

set_option maxRecDepth 100000 in
set_option maxHeartbeats 400000 in
theorem slices_Clone (A : Option Addr) (c : Nat) (l : List ByteArray) (w : World) (S : Nat → Prop) (h : Strs w S A l) :
    Calls Tryz.prog 73 #[.slice A l.length c] w (RetSs w l) := by
  have hn := h.2.1
  rcases A with _ | a
  · have hl : l = [] := by
      rcases h.1 with h0 | ⟨b, o, h1, _⟩
      · simpa using h0
      · cases h1
    subst hl
    have hnil := fun w : World => Lib.run_eql_slice_nil w 25 9 none 0 c 0 0 Tryz.underlying25
    simp only [List.length_nil] at hnil ⊢
    go_enter Tryz.func73, Tryz.ntmps73
    go_wp2
    go_ret
    exact ⟨none, 0, rfl, Nat.le_refl _, Strs.nil, Ext.refl _⟩
  · have hnil := fun w : World => Lib.run_eql_slice_nil w 25 9 (some a) l.length c 0 0 Tryz.underlying25
    go_enter Tryz.func73, Tryz.ntmps73
    go_wp2_with (at_builtin; refine wpList_app rfl (.tmp 5) (.tmp 6) rfl tiS rfl ((World.ownsRow_made w #[] 0 (Nat.le_refl _) (by unfold maxLen; omega) rfl)) rfl (h.1.keep (Kept.alloc _ _ _)) (by simp) (by simp [Value.oneCell']) (by omega) (by decide) (by simp) ?_; intro A' c' w1 hown hg hat)
    go_ret
    simp only [Nat.zero_add, List.nil_append] at hown
    exact ⟨A', c', rfl, hown.cap, ⟨Rd.of_own hown, h.2⟩, ((Ext.refl w).alloc _).grown hg (fun k hk => by simp [ob] at hk; omega)⟩

/-- Where value.Copy stands in its outer loop: all that it has made so far lies below H. -/
structure CopyRel (w : World) (x : Val) (q : Nat) (B : Option Addr) (e : Nat) (A1 : Option Addr) (c1 : Nat) (k : Nat) (A : Option Addr) (c : Nat) (H : Nat) (wr : World) : Prop where
  ext : Ext w wr
  low : w.heap.size + 2 ≤ H
  high : H ≤ wr.heap.size
  box : Blk wr w.heap.size 33 #[.int .i64 x.kind, .string x.s, .int .i64 x.dn, .int .i64 x.ds, .int .i64 x.n, .slice A1 x.cols.length c1, .slice B x.rows.length e]
  res : Blk wr (w.heap.size + 1) 33 #[.int .i64 0, .string ⟨#[]⟩, .int .i64 0, .int .i64 0, .int .i64 0, .slice none 0 0, .slice none 0 0]
  cols : Strs wr (fun b => w.heap.size + 2 ≤ b ∧ b < H ∧ ob A ≠ some b) A1 x.cols
  rows : OwnRs wr (w.heap.size + 2) (fun b => w.heap.size + 2 ≤ b ∧ b < H) q A c (x.rows.take k)
  own : ∀ b, ob A = some b → b < H
theorem CopyRel.below {w : World} {x : Val} {q : Nat} {B : Option Addr} {e : Nat} {A1 : Option Addr} {c1 : Nat} {k : Nat} {A : Option Addr} {c : Nat} {H : Nat} {wr wr' : World}
    (h : CopyRel w x q B e A1 c1 k A c H wr) (hb : Below H wr wr') : CopyRel w x q B e A1 c1 k A c H wr' := by
  have hl := h.low
  exact ⟨Below.trans h.ext (hb.mono (by omega)), h.low, Nat.le_trans h.high hb.size, h.box.keep (Kept.of_below hb (by intro b e _; omega)), h.res.keep (Kept.of_below hb (by intro b e _; omega)),
    h.cols.keep (Kept.of_below hb (by intro b e _; omega)), h.rows.keep (Kept.of_below hb (by
      rintro b (e | e) _
      · exact h.own b e
      · exact e.2)), h.own⟩

def PCopy (d : Nat) : Prop := ∀ (x : Val) (A B : Option Addr) (c e : Nat) (w : World) (S : Nat → Prop), RV w S d x A B → Calls Tryz.prog 47 #[(.agg #[.int .i64 x.kind, .string x.s, .int .i64 x.dn, .int .i64 x.ds, .int .i64 x.n, .slice A x.cols.length c, .slice B x.rows.length e])] w (RetV w (Fresh w) d x)

set_option maxRecDepth 100000 in
set_option maxHeartbeats 400000 in
theorem value_Copy_step (q : Nat) (ih : 0 < q → PCopy (q - 1)) : PCopy q := by
  intro x A B c e w S hx
  have HX := Lib.hid hx
  have IH := Lib.hid ih
  have hlen := hx.rows_.len
  clear hx ih
  obtain ⟨cur, hmk, hcur⟩ := run_mk0 tiR x.rows.length (by omega) (by decide)
  have HCUR := Lib.hid hcur
  clear hcur
  go_enter Tryz.func47, Tryz.ntmps47
  go_wp2_with fail
  refine (slices_Clone _ _ _ _ S (HX.out.strs.keep ((((Ext.refl _).alloc _).alloc _).kept _))).mono ?_
  rintro e1 w1 ⟨A1, c1, rfl, hcc1, hs1, hx1⟩
  obtain ⟨hc1, hf1⟩ := bcell hx1
  have hz1 := hx1.size
  simp at hc1 hf1 hz1
  have hz2 : w.heap.size < w1.heap.size := by omega
  have hz3 : w.heap.size + 1 < w1.heap.size := by omega
  go_wp2
  have hstart : CopyRel w x q B e A1 c1 0 (some ⟨w1.heap.size, 0, none⟩) x.rows.length (w1.heap.size + 1) ((w1.setCell ⟨w.heap.size, 5, none⟩ (.slice A1 x.cols.length c1)).alloc (.cells cur 45)) := by
    have hW : Ext w ((w1.setCell ⟨w.heap.size, 5, none⟩ (.slice A1 x.cols.length c1)).alloc (.cells cur 45)) :=
      ((Ext.trans (((Ext.refl w).alloc _).alloc _) hx1).setCell (by simp) _).alloc _
    have hb0 := (((Blk.new w 33 #[.int .i64 x.kind, .string x.s, .int .i64 x.dn, .int .i64 x.ds, .int .i64 x.n, .slice A x.cols.length c, .slice B x.rows.length e]).keep (Kept.alloc _ _ _)).keep (hx1.kept _))
    have hb1 := (Blk.new (w.alloc (.cells #[.int .i64 x.kind, .string x.s, .int .i64 x.dn, .int .i64 x.ds, .int .i64 x.n, .slice A x.cols.length c, .slice B x.rows.length e] 33)) 33 #[.int .i64 0, .string ⟨#[]⟩, .int .i64 0, .int .i64 0, .int .i64 0, .slice none 0 0, .slice none 0 0]).keep (hx1.kept _)
    refine ⟨hW, by omega, by simp [World.setCell], ((hb0.set 5 (.slice A1 x.cols.length c1)).keep (Kept.alloc _ _ _)), ?_, ?_, ?_, ?_⟩
    · have := (hb1.keep (w' := w1.setCell ⟨w.heap.size, 5, none⟩ (.slice A1 x.cols.length c1)) (Kept.of_set (by simp))).keep (Kept.alloc _ _ (.cells cur 45))
      simpa using this
    · refine (((hs1.mono (T := fun b => w.heap.size + 2 ≤ b ∧ b < w1.heap.size) (fun i hi0 hi => ⟨by unfold Fresh at hi; simp at hi; omega, hi0⟩)).keep (w' := w1.setCell ⟨w.heap.size, 5, none⟩ (.slice A1 x.cols.length c1)) (Kept.set2 (Kept.refl _ _) (by show ¬ (_ ≤ _ ∧ _); omega))).keep (Kept.alloc _ _ _)).mono (fun i hi0 hi => ⟨hi.1, by omega, fun h0 => ?_⟩)
      simp [ob] at h0
      omega
    · have hmade := Own.lower (base' := w.heap.size + 2) (Own.made (w1.setCell ⟨w.heap.size, 5, none⟩ (.slice A1 x.cols.length c1)) 45 _ _ cur (by unfold maxLen; omega) HCUR.out) (by rw [show (w1.setCell ⟨w.heap.size, 5, none⟩ (.slice A1 x.cols.length c1)).heap.size = w1.heap.size by simp [World.setCell]]; omega)
      rw [show (w1.setCell ⟨w.heap.size, 5, none⟩ (.slice A1 x.cols.length c1)).heap.size = w1.heap.size by simp [World.setCell]] at hmade
      exact ⟨[], hmade, by simp⟩
    · intro b hb
      simp [ob] at hb
      omega
  go_loopw [20, 3] (fun i v wr => ∃ (k : Nat) (A : Option Addr) (c H : Nat), k ≤ x.rows.length ∧ i = .int .i64 k ∧ v = .slice A k c ∧ CopyRel w x q B e A1 c1 k A c H wr) (fun i _ _ => x.rows.length - (intOf i).toNat)
  case atStart => exact ⟨0, _, _, _, Nat.zero_le _, rfl, rfl, hstart⟩
  case round =>
    clear hstart hc1 hf1 hz1 hz2 hz3 hs1 hx1 hmk
    obtain ⟨k, Ar, cr, H, hk, rfl, rfl, hR⟩ := hrel
    have HR := Lib.hid hR
    by_cases hlt : k < x.rows.length
    · obtain ⟨b1, o1, A2, c2, rfl, z1, p0, hcr, hrow⟩ := (HX.out.rows_.keep (hR.ext.kept S)).at_ hlt
      have hrl := hrow.len
      obtain ⟨cur2, hmk2, hcur2⟩ := run_mk0 tiV x.rows[k].length (by omega) (by decide)
      have HROW := Lib.hid hrow
      clear hrow hR
      go_wp2
      obtain ⟨wo, rfl⟩ : ∃ wo : World, wo = wr := ⟨_, rfl⟩
      have hst : OwnVs (wo.alloc (.cells cur2 33)) wo.heap.size (fun b => wo.heap.size ≤ b) q (some ⟨wo.heap.size, 0, none⟩) x.rows[k].length (x.rows[k].take 0) :=
        ⟨[], Own.made wo _ _ _ cur2 (by unfold maxLen; omega) hcur2, VL.nil _⟩
      have HST := Lib.hid hst
      clear hst hcur2 hmk2
      go_loopw [29, 6] (fun i v wi => ∃ (j : Nat) (A' : Option Addr) (c' : Nat), j ≤ x.rows[k].length ∧ i = .int .i64 j ∧ v = .slice A' j c' ∧ Below wo.heap.size wo wi ∧ OwnVs wi wo.heap.size (fun b => wo.heap.size ≤ b) q A' c' (x.rows[k].take j)) (fun i _ _ => x.rows[k].length - (intOf i).toNat)
      case atStart => exact ⟨0, _, _, Nat.zero_le _, rfl, rfl, (Ext.refl wo).alloc _, HST.out⟩
      case round =>
        obtain ⟨j, A', c', hj, rfl, rfl, hbi, hoi⟩ := hrel
        have HBI := Lib.hid hbi
        have HOI := Lib.hid hoi
        have hszi := hbi.size
        by_cases hlt2 : j < x.rows[k].length
        · obtain ⟨b2, o2, A5, c5, B5, e5, rfl, z2, ⟨p0, p1, p2, p3, p4, p5, p6⟩, ⟨hq, _, _⟩, hv⟩ := (HROW.out.keep (Kept.of_below hbi (fun _ _ h => h))).at_ hlt2
          have HV := Lib.hid hv
          clear hv hbi hoi
          go_wp2_with fail
          refine (IH.out hq _ _ _ _ _ _ S (HV.out.keep (Kept.alloc _ _ _))).mono ?_
          rintro e3 w3 ⟨A3, c3, B3, e3, rfl, hcc3, hv3, hx3⟩
          have HX3 := Lib.hid (((Ext.refl wr).alloc _).trans hx3)
          have hz3 : wr.heap.size < w3.heap.size := by have := hx3.size; simp at this; omega
          have hv3' := hv3.mono (T := fun b => wr.heap.size ≤ b) (fun i _ hi => by unfold Fresh at hi; simp at hi; omega)
          obtain ⟨xs, hown, hvl⟩ := HOI.out.ext (HX3.out.alloc (.cells (vcells x.rows[k][j] A3 c3 B3 e3).toArray 33))
          have hlj : (x.rows[k].take j).length = j := by rw [List.length_take]; omega
          have HVL := Lib.hid hvl
          rw [hlj] at hown
          have HOWN := Lib.hid hown
          have HLJ := Lib.hid hlj
          have HV3 := Lib.hid hv3'
          clear hvl hown hv3 hv3' hx3 hlj
          go_wp2_with (at_builtin; go_must (refine wpList_app rfl (.tmp 33) (.tmp 36) rfl tiV rfl HOWN.out rfl (Blk.rd (Blk.new _ _ _)) rfl vcells_one (by omega) (by decide) (by simp; omega) ?_); intro A4 c4 w4 hown4 hg4 hat4)
          go_roundw
          case rel =>
            refine ⟨j + 1, A4, c4, by omega, by go_num, rfl, ?_, ?_⟩
            · exact Below.grown (HBI.out.trans (((Ext.mono (HX3.out.alloc _) HBI.out.size)))) hg4 (by simp; omega) (fun k hk => (HOWN.out.blk hk).1)
            · rw [List.take_succ_eq_append_getElem hlt2]
              refine OwnVs.push HVL.out (by rw [HLJ.out]; exact hown4) hg4 hat4 ⟨hq, hcc3⟩ ((HV3.out.keep (Kept.alloc _ _ _)).mono fun i _ hi => ⟨fun h0 => ?_, by omega⟩)
              have := (HOI.out.blk h0).2
              omega
          case measure => simp [intOf]; omega
        · have hjr : j = x.rows[k].length := by omega
          subst hjr
          have hrow2 := HOI.out
          rw [List.take_of_length_le (Nat.le_refl _)] at hrow2
          have hrow3 : Row wr (fun b => wo.heap.size ≤ b) q A' x.rows[k] := hrow2.row hrl (fun b hb => (hrow2.blk hb).1) (fun b hb => hb)
          have hrel2 := (HR.out.below (HBI.out.mono HR.out.high)).below (((Ext.refl wr).alloc (.cells #[.slice A' x.rows[k].length c'] 45)).mono (Nat.le_trans HR.out.high HBI.out.size))
          have HREL2 := Lib.hid hrel2
          have HCRR := Lib.hid (show x.rows[k].length ≤ c' by obtain ⟨xs0, ho0, _⟩ := hrow2; exact ho0.cap)
          obtain ⟨hs, hown, hvl⟩ := hrel2.rows
          have hlk : (x.rows.take k).length = k := by rw [List.length_take]; omega
          have hhs : hs.length = k := by have := hown.len; rw [hlk] at this; omega
          rw [hlk] at hown
          have HOWN := Lib.hid hown
          have HVL := Lib.hid hvl
          have HLK := Lib.hid hlk
          have HHS := Lib.hid hhs
          have HROW3 := Lib.hid (hrow3.keep (Kept.alloc _ wr (.cells #[.slice A' x.rows[k].length c'] 45)))
          have hlow := HR.out.low
          have hhigh := HR.out.high
          clear hvl hown hlk hhs hrow2 hrow3 hrel2 hoi hbi
          go_wp2_with (at_builtin; go_must (refine wpList_app rfl (.tmp 39) (.tmp 41) rfl tiR rfl HOWN.out rfl (Blk.rd (Blk.new _ _ _)) rfl (by simp [Value.oneCell']) (by omega) (by decide) (by simp; omega) ?_); intro A4 c4 w4 hown4 hg4 hat4)
          go_roundw
          case rel =>
            refine ⟨k + 1, A4, c4, w4.heap.size, by omega, by go_num, rfl, ?_⟩
            have hlow2 : ∀ b, ob Ar = some b → w.heap.size + 2 ≤ b := fun b hb => (HOWN.out.blk hb).1
            have hold := HREL2.out.own
            have hsz4 := hg4.size
            simp at hsz4
            have hne : ∀ i, i < H → ob Ar ≠ some i → ob A4 ≠ some i := by
              intro i hi h1 h2
              rcases hat4 with e | e <;> rw [e] at h2
              · exact h1 h2
              · simp at h2; omega
            refine ⟨Ext.grown HREL2.out.ext hg4 (fun b hb => by have := hlow2 b hb; omega), by omega, Nat.le_refl _, HREL2.out.box.keep (Kept.of_grown hg4 ?_), HREL2.out.res.keep (Kept.of_grown hg4 ?_), ?_, ?_, ?_⟩
            · rintro b rfl _ hb
              have := hlow2 _ hb.symm
              omega
            · rintro b rfl _ hb
              have := hlow2 _ hb.symm
              omega
            · refine (Strs.mono HREL2.out.cols (T := fun b => w.heap.size + 2 ≤ b ∧ b < w4.heap.size ∧ ob A4 ≠ some b ∧ ob Ar ≠ some b) (fun i _ hi => ⟨hi.1, by omega, hne i hi.2.1 hi.2.2, hi.2.2⟩)).keep (Kept.of_grown hg4 (fun b hb _ h => hb.2.2.2 h.symm)) |>.mono (fun i _ hi => ⟨hi.1, hi.2.1, hi.2.2.1⟩)
            · rw [List.take_succ_eq_append_getElem hlt]
              refine OwnRs.push (w := wr.alloc (.cells #[.slice A' x.rows[k].length c'] 45)) (by rw [HLK.out]; exact HHS.out) ?_ (by rw [HLK.out]; exact hown4) hg4 hat4 HCRR.out ?_
              · intro i r hr
                obtain ⟨B6, e6, h6, hcp, h7⟩ := HVL.out i r hr
                exact ⟨B6, e6, h6, hcp, h7.mono fun i _ hi => ⟨hi.1, hi.2.1, by omega⟩⟩
              · refine HROW3.out.mono fun i hi0 hi => ⟨fun h0 => ?_, by omega, by simp at hi0; omega⟩
                have := hold i h0
                omega
            · intro b hb
              have := hown4.blk hb
              omega
          case measure => simp [intOf]; omega
    · have hke : k = x.rows.length := by omega
      subst hke
      clear hR
      have hbox := HR.out.box
      have hres := HR.out.res
      have hext := HR.out.ext
      have g0 := hbox.cell (i := 0) rfl
      have g1 := hbox.cell (i := 1) rfl
      have g2 := hbox.cell (i := 2) rfl
      have g3 := hbox.cell (i := 3) rfl
      have g4 := hbox.cell (i := 4) rfl
      have g5 := hbox.cell (i := 5) rfl
      have g6 := hbox.cell (i := 6) rfl
      have f0 := hbox.frozen
      have r0 := hres.cell (i := 0) rfl
      have r1 := hres.cell (i := 1) rfl
      have r2 := hres.cell (i := 2) rfl
      have r3 := hres.cell (i := 3) rfl
      have r4 := hres.cell (i := 4) rfl
      have r5 := hres.cell (i := 5) rfl
      have r6 := hres.cell (i := 6) rfl
      have f1 := hres.frozen
      have z1 := hbox.lt
      have z2 := hres.lt
      have HE := Lib.hid hext
      clear hbox hres hext
      go_wp2
      have hkept : ∀ wz : World, Kept (fun b => w.heap.size + 2 ≤ b) wr wz → RV wz (Fresh w) q x A1 Ar := by
        intro wz hkz
        have hcols := HR.out.cols.mono (T := fun b => w.heap.size + 2 ≤ b) (fun i _ hi => hi.1)
        have hrs := HR.out.rows
        rw [List.take_of_length_le (Nat.le_refl _)] at hrs
        have hrows : Rows wr (fun b => w.heap.size + 2 ≤ b) q Ar x.rows := hrs.rows hlen (fun b hb => (hrs.blk hb).1) (fun b hb => hb.1)
        exact (RV.mk HX.out.size (hcols.keep hkz) (hrows.keep hkz)).mono (fun i _ hi => by unfold Fresh; omega)
      have HK := Lib.hid hkept
      have HCAP := Lib.hid (show x.rows.length ≤ cr by
        have hrs := HR.out.rows
        rw [List.take_of_length_le (Nat.le_refl _)] at hrs
        obtain ⟨xs0, ho0, _⟩ := hrs
        exact ho0.cap)
      clear hkept
      refine bodyPost_ret (v := (.agg #[.int .i64 x.kind, .string x.s, .int .i64 x.dn, .int .i64 x.ds, .int .i64 x.n, .slice A1 x.cols.length c1, .slice Ar x.rows.length cr])) (by simp [results, Tryz.results47, go_sem, r0, r1, r2, r3, r4, r5, r6, z2]) rfl ⟨A1, c1, Ar, cr, rfl, ⟨hcc1, HCAP.out⟩, HK.out _ ?_, ?_⟩
      · iterate 8 with_reducible refine Kept.set2 ?_ (by show ¬ (_ ≤ _); omega)
        with_reducible exact Kept.refl _ _
      · iterate 8 with_reducible refine Ext.set2 ?_ (by omega) _
        with_reducible exact HE.out

theorem value_Copy (q : Nat) : PCopy q := by
  induction q with
  | zero => exact value_Copy_step 0 (fun h => absurd h (by omega))
  | succ q ih => exact value_Copy_step (q + 1) (fun _ => ih)
end Go.Proofs.YtcmmkeiiapbgcaaGreatDoor
