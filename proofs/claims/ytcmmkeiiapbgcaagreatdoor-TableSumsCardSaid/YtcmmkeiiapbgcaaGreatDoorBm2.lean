/- Copies: slices.Clone of texts and value.Copy give the same data in new memory alone. No conditions but that the argument reads as data. -/
import Derived.Test.YtcmmkeiiapbgcaaGreatDoorBm1
import Derived.Laws.MakeOwn
import Derived.WalkSpells
namespace Go.Proofs.YtcmmkeiiapbgcaaGreatDoor
open Go Go.RowKit

theorem run_mk {P : Program} {t e sz by_ : Nat} (ti : TI P t e sz by_) (n c : Nat) (hnc : n ≤ c) (hb : by_ * c ≤ 281474976710656) (hby : 0 < by_) :
    ∃ cur : Array Value, (∀ w : World, (Instr.makeSlice t (.int .i64 (n : Int)) (.int .i64 (c : Int))).run P w = .ok (.slice (some ⟨w.heap.size, 0, none⟩) n c) (w.alloc (.cells cur e))) ∧ cur.size = c * sz := by
  obtain ⟨ht, i, z, hi, hz, hsize, hbytes, hzs, hsz⟩ := ti
  refine ⟨madeCells z.cells (c * i.size), fun w => ?_, by simp [madeCells, hsize]⟩
  have hc : c ≤ 281474976710656 := by
    have : 1 * c ≤ by_ * c := Nat.mul_le_mul_right _ hby
    omega
  have hb' : (i.bytes : Int) * (c : Int) ≤ 281474976710656 := by
    rw [hbytes]
    have h : ((by_ * c : Nat) : Int) ≤ 281474976710656 := by omega
    rwa [Int.natCast_mul] at h
  have hr := run_make (P := P) w t e i z ht hi hz .i64 .i64 n c (by omega) (by omega) hb' (by omega)
  simp only [Int.toNat_natCast] at hr
  exact hr
theorem run_mk0 {P : Program} {t e sz by_ : Nat} (ti : TI P t e sz by_) (c : Nat) (hb : by_ * c ≤ 281474976710656) (hby : 0 < by_) :
    ∃ cur : Array Value, (∀ w : World, (Instr.makeSlice t (.int .i64 0) (.int .i64 (c : Int))).run P w = .ok (.slice (some ⟨w.heap.size, 0, none⟩) 0 c) (w.alloc (.cells cur e))) ∧ cur.size = c * sz := by
  have := run_mk ti 0 c (Nat.zero_le _) hb hby
  simpa using this

/-- New memory: blocks from the call's beginning on. -/
def Fresh (w : World) : Nat → Prop := fun b => w.heap.size ≤ b
def RetSs (w : World) (l : List ByteArray) (e : Ending) (w' : World) : Prop := ∃ A' c', e = .returned (.slice A' l.length c') ∧ l.length ≤ c' ∧ Strs w' (Fresh w) A' l ∧ Ext w w'
def RetV (w : World) (S : Nat → Prop) (d : Nat) (x : Val) (e : Ending) (w' : World) : Prop := ∃ A c B e', e = .returned (.agg #[.int .i64 x.kind, .string x.s, .int .i64 x.dn, .int .i64 x.ds, .int .i64 x.n, .slice A x.cols.length c, .slice B x.rows.length e']) ∧ (x.cols.length ≤ c ∧ x.rows.length ≤ e') ∧ RV w' S d x A B ∧ Ext w w'

set_option maxRecDepth 100000 in
set_option maxHeartbeats 400000 in
theorem slices_Clone (A : Option Addr) (c : Nat) (l : List ByteArray) (w : World) (S : Nat → Prop) (h : Strs w S A l) :
    Calls Tryz.prog 73 #[.slice A l.length c] w (RetSs w l) := by
  have hn := h.2.1
  rcases A with _ | a
  · have hl : l = [] := by
      rcases h.1 with h0 | ⟨b, o, h1, _⟩
      · simpa using h0
      · cases h1
    subst hl
    have hnil := fun w : World => Lib.run_eql_slice_nil w 25 9 none 0 c 0 0 Tryz.underlying25
    simp only [List.length_nil] at hnil ⊢
    go_enter Tryz.func73, Tryz.ntmps73
    go_wp2
    go_ret
    exact ⟨none, 0, rfl, Nat.le_refl _, Strs.nil, Ext.refl _⟩
  · have hnil := fun w : World => Lib.run_eql_slice_nil w 25 9 (some a) l.length c 0 0 Tryz.underlying25
    go_enter Tryz.func73, Tryz.ntmps73
    go_wp2_with (at_builtin; refine wpList_app rfl (.tmp 5) (.tmp 6) rfl tiS rfl ((World.ownsRow_made w #[] 0 (Nat.le_refl _) (by unfold maxLen; omega) rfl)) rfl (h.1.keep (Kept.alloc _ _ _)) (by simp) (by simp [Value.oneCell']) (by omega) (by decide) (by simp) ?_; intro A' c' w1 hown hg hat)
    go_ret
    simp only [Nat.zero_add, List.nil_append] at hown
    exact ⟨A', c', rfl, hown.cap, ⟨Rd.of_own hown, h.2⟩, ((Ext.refl w).alloc _).grown hg (fun k hk => by simp [ob] at hk; omega)⟩

/-- Where value.Copy stands in its outer loop: all that it has made so far lies below H. -/
structure CopyRel (w : World) (x : Val) (q : Nat) (B : Option Addr) (e : Nat) (A1 : Option Addr) (c1 : Nat) (k : Nat) (A : Option Addr) (c : Nat) (H : Nat) (wr : World) : Prop where
  ext : Ext w wr
  low : w.heap.size + 2 ≤ H
  high : H ≤ wr.heap.size
  box : Blk wr w.heap.size 33 #[.int .i64 x.kind, .string x.s, .int .i64 x.dn, .int .i64 x.ds, .int .i64 x.n, .slice A1 x.cols.length c1, .slice B x.rows.length e]
  res : Blk wr (w.heap.size + 1) 33 #[.int .i64 0, .string ⟨#[]⟩, .int .i64 0, .int .i64 0, .int .i64 0, .slice none 0 0, .slice none 0 0]
  cols : Strs wr (fun b => w.heap.size + 2 ≤ b ∧ b < H ∧ ob A ≠ some b) A1 x.cols
  rows : OwnRs wr (w.heap.size + 2) (fun b => w.heap.size + 2 ≤ b ∧ b < H) q A c (x.rows.take k)
  own : ∀ b, ob A = some b → b < H
theorem CopyRel.below {w : World} {x : Val} {q : Nat} {B : Option Addr} {e : Nat} {A1 : Option Addr} {c1 : Nat} {k : Nat} {A : Option Addr} {c : Nat} {H : Nat} {wr wr' : World}
    (h : CopyRel w x q B e A1 c1 k A c H wr) (hb : Below H wr wr') : CopyRel w x q B e A1 c1 k A c H wr' := by
  have hl := h.low
  exact ⟨Below.trans h.ext (hb.mono (by omega)), h.low, Nat.le_trans h.high hb.size, h.box.keep (Kept.of_below hb (by intro b e _; omega)), h.res.keep (Kept.of_below hb (by intro b e _; omega)),
    h.cols.keep (Kept.of_below hb (by intro b e _; omega)), h.rows.keep (Kept.of_below hb (by
      rintro b (e | e) _
      · exact h.own b e
      · exact e.2)), h.own⟩

def PCopy (d : Nat) : Prop := ∀ (x : Val) (A B : Option Addr) (c e : Nat) (w : World) (S : Nat → Prop), RV w S d x A B → Calls Tryz.prog 47 #[(.agg #[.int .i64 x.kind, .string x.s, .int .i64 x.dn, .int .i64 x.ds, .int .i64 x.n, .slice A x.cols.length c, .slice B x.rows.length e])] w (RetV w (Fresh w) d x)

set_option maxRecDepth 100000 in
set_option maxHeartbeats 400000 in
theorem value_Copy_step (q : Nat) (ih : 0 < q → PCopy (q - 1)) : PCopy q := by
  intro x A B c e w S hx
  have HX := Lib.hid hx
  have IH := Lib.hid ih
  have hlen := hx.rows_.len
  clear hx ih
  obtain ⟨cur, hmk, hcur⟩ := run_mk0 tiR x.rows.length (by omega) (by decide)
  have HCUR := Lib.hid hcur
  clear hcur
  go_enter Tryz.func47, Tryz.ntmps47
  go_wp2_with fail
  refine (slices_Clone _ _ _ _ S (HX.out.strs.keep ((((Ext.refl _).alloc _).alloc _).kept _))).mono ?_
  rintro e1 w1 ⟨A1, c1, rfl, hcc1, hs1, hx1⟩
  obtain ⟨hc1, hf1⟩ := bcell hx1
  have hz1 := hx1.size
  simp at hc1 hf1 hz1
  have hz2 : w.heap.size < w1.heap.size := by omega
  have hz3 : w.heap.size + 1 < w1.heap.size := by omega
  go_wp2
  have hstart : CopyRel w x q B e A1 c1 0 (some ⟨w1.heap.size, 0, none⟩) x.rows.length (w1.heap.size + 1) ((w1.setCell ⟨w.heap.size, 5, none⟩ (.slice A1 x.cols.length c1)).alloc (.cells cur 45)) := by
    have hW : Ext w ((w1.setCell ⟨w.heap.size, 5, none⟩ (.slice A1 x.cols.length c1)).alloc (.cells cur 45)) :=
      ((Ext.trans (((Ext.refl w).alloc _).alloc _) hx1).setCell (by simp) _).alloc _
    have hb0 := (((Blk.new w 33 #[.int .i64 x.kind, .string x.s, .int .i64 x.dn, .int .i64 x.ds, .int .i64 x.n, .slice A x.cols.length c, .slice B x.rows.length e]).keep (Kept.alloc _ _ _)).keep (hx1.kept _))
    have hb1 := (Blk.new (w.alloc (.cells #[.int .i64 x.kind, .string x.s, .int .i64 x.dn, .int .i64 x.ds, .int .i64 x.n, .slice A x.cols.length c, .slice B x.rows.length e] 33)) 33 #[.int .i64 0, .string ⟨#[]⟩, .int .i64 0, .int .i64 0, .int .i64 0, .slice none 0 0, .slice none 0 0]).keep (hx1.kept _)
    refine ⟨hW, by omega, by simp [World.setCell], ((hb0.set 5 (.slice A1 x.cols.length c1)).keep (Kept.alloc _ _ _)), ?_, ?_, ?_, ?_⟩
    · have := (hb1.keep (w' := w1.setCell ⟨w.heap.size, 5, none⟩ (.slice A1 x.cols.length c1)) (Kept.of_set (by simp))).keep (Kept.alloc _ _ (.cells cur 45))
      simpa using this
    · refine (((hs1.mono (T := fun b => w.heap.size + 2 ≤ b ∧ b < w1.heap.size) (fun i hi0 hi => ⟨by unfold Fresh at hi; simp at hi; omega, hi0⟩)).keep (w' := w1.setCell ⟨w.heap.size, 5, none⟩ (.slice A1 x.cols.length c1)) (Kept.set2 (Kept.refl _ _) (by show ¬ (_ ≤ _ ∧ _); omega))).keep (Kept.alloc _ _ _)).mono (fun i hi0 hi => ⟨hi.1, by omega, fun h0 => ?_⟩)
      simp [ob] at h0
      omega
    · have hmade := Own.lower (base' := w.heap.size + 2) (Own.made (w1.setCell ⟨w.heap.size, 5, none⟩ (.slice A1 x.cols.length c1)) 45 _ _ cur (by unfold maxLen; omega) HCUR.out) (by rw [show (w1.setCell ⟨w.heap.size, 5, none⟩ (.slice A1 x.cols.length c1)).heap.size = w1.heap.size by simp [World.setCell]]; omega)
      rw [show (w1.setCell ⟨w.heap.size, 5, none⟩ (.slice A1 x.cols.length c1)).heap.size = w1.heap.size by simp [World.setCell]] at hmade
      exact ⟨[], hmade, by simp⟩
    · intro b hb
      simp [ob] at hb
      omega
  go_loopw [20, 3] (fun i v wr => ∃ (k : Nat) (A : Option Addr) (c H : Nat), k ≤ x.rows.length ∧ i = .int .i64 k ∧ v = .slice A k c ∧ CopyRel w x q B e A1 c1 k A c H wr) (fun i _ _ => x.rows.length - (intOf i).toNat)
  case atStart => exact ⟨0, _, _, _, Nat.zero_le _, rfl, rfl, hstart⟩
  case round =>
    clear hstart hc1 hf1 hz1 hz2 hz3 hs1 hx1 hmk
    obtain ⟨k, Ar, cr, H, hk, rfl, rfl, hR⟩ := hrel
    have HR := Lib.hid hR
    by_cases hlt : k < x.rows.length
    · obtain ⟨b1, o1, A2, c2, rfl, z1, p0, hcr, hrow⟩ := (HX.out.rows_.keep (hR.ext.kept S)).at_ hlt
      have hrl := hrow.len
      obtain ⟨cur2, hmk2, hcur2⟩ := run_mk0 tiV x.rows[k].length (by omega) (by decide)
      have HROW := Lib.hid hrow
      clear hrow hR
      go_wp2
      obtain ⟨wo, rfl⟩ : ∃ wo : World, wo = wr := ⟨_, rfl⟩
      have hst : OwnVs (wo.alloc (.cells cur2 33)) wo.heap.size (fun b => wo.heap.size ≤ b) q (some ⟨wo.heap.size, 0, none⟩) x.rows[k].length (x.rows[k].take 0) :=
        ⟨[], Own.made wo _ _ _ cur2 (by unfold maxLen; omega) hcur2, VL.nil _⟩
      have HST := Lib.hid hst
      clear hst hcur2 hmk2
      go_loopw [29, 6] (fun i v wi => ∃ (j : Nat) (A' : Option Addr) (c' : Nat), j ≤ x.rows[k].length ∧ i = .int .i64 j ∧ v = .slice A' j c' ∧ Below wo.heap.size wo wi ∧ OwnVs wi wo.heap.size (fun b => wo.heap.size ≤ b) q A' c' (x.rows[k].take j)) (fun i _ _ => x.rows[k].length - (intOf i).toNat)
      case atStart => exact ⟨0, _, _, Nat.zero_le _, rfl, rfl, (Ext.refl wo).alloc _, HST.out⟩
      case round =>
        obtain ⟨j, A', c', hj, rfl, rfl, hbi, hoi⟩ := hrel
        have HBI := Lib.hid hbi
        have HOI := Lib.hid hoi
        have hszi := hbi.size
        by_cases hlt2 : j < x.rows[k].length
        · obtain ⟨b2, o2, A5, c5, B5, e5, rfl, z2, ⟨p0, p1, p2, p3, p4, p5, p6⟩, ⟨hq, _, _⟩, hv⟩ := (HROW.out.keep (Kept.of_below hbi (fun _ _ h => h))).at_ hlt2
          have HV := Lib.hid hv
          clear hv hbi hoi
          go_wp2_with fail
          refine (IH.out hq _ _ _ _ _ _ S (HV.out.keep (Kept.alloc _ _ _))).mono ?_
          rintro e3 w3 ⟨A3, c3, B3, e3, rfl, hcc3, hv3, hx3⟩
          have HX3 := Lib.hid (((Ext.refl wr).alloc _).trans hx3)
          have hz3 : wr.heap.size < w3.heap.size := by have := hx3.size; simp at this; omega
          have hv3' := hv3.mono (T := fun b => wr.heap.size ≤ b) (fun i _ hi => by unfold Fresh at hi; simp at hi; omega)
          obtain ⟨xs, hown, hvl⟩ := HOI.out.ext (HX3.out.alloc (.cells (vcells x.rows[k][j] A3 c3 B3 e3).toArray 33))
          have hlj : (x.rows[k].take j).length = j := by rw [List.length_take]; omega
          have HVL := Lib.hid hvl
          rw [hlj] at hown
          have HOWN := Lib.hid hown
          have HLJ := Lib.hid hlj
          have HV3 := Lib.hid hv3'
          clear hvl hown hv3 hv3' hx3 hlj
          go_wp2_with (at_builtin; go_must (refine wpList_app rfl (.tmp 33) (.tmp 36) rfl tiV rfl HOWN.out rfl (Blk.rd (Blk.new _ _ _)) rfl vcells_one (by omega) (by decide) (by simp; omega) ?_); intro A4 c4 w4 hown4 hg4 hat4)
          go_roundw
          case rel =>
            refine ⟨j + 1, A4, c4, by omega, by go_num, rfl, ?_, ?_⟩
            · exact Below.grown (HBI.out.trans (((Ext.mono (HX3.out.alloc _) HBI.out.size)))) hg4 (by simp; omega) (fun k hk => (HOWN.out.blk hk).1)
            · rw [List.take_succ_eq_append_getElem hlt2]
              refine OwnVs.push HVL.out (by rw [HLJ.out]; exact hown4) hg4 hat4 ⟨hq, hcc3⟩ ((HV3.out.keep (Kept.alloc _ _ _)).mono fun i _ hi => ⟨fun h0 => ?_, by omega⟩)
              have := (HOI.out.blk h0).2
              omega
          case measure => simp [intOf]; omega
        · have hjr : j = x.rows[k].length := by omega
          subst hjr
          have hrow2 := HOI.out
          rw [List.take_of_length_le (Nat.le_refl _)] at hrow2
          have hrow3 : Row wr (fun b => wo.heap.size ≤ b) q A' x.rows[k] := hrow2.row hrl (fun b hb => (hrow2.blk hb).1) (fun b hb => hb)
          have hrel2 := (HR.out.below (HBI.out.mono HR.out.high)).below (((Ext.refl wr).alloc (.cells #[.slice A' x.rows[k].length c'] 45)).mono (Nat.le_trans HR.out.high HBI.out.size))
          have HREL2 := Lib.hid hrel2
          have HCRR := Lib.hid (show x.rows[k].length ≤ c' by obtain ⟨xs0, ho0, _⟩ := hrow2; exact ho0.cap)
          obtain ⟨hs, hown, hvl⟩ := hrel2.rows
          have hlk : (x.rows.take k).length = k := by rw [List.length_take]; omega
          have hhs : hs.length = k := by have := hown.len; rw [hlk] at this; omega
          rw [hlk] at hown
          have HOWN := Lib.hid hown
          have HVL := Lib.hid hvl
          have HLK := Lib.hid hlk
          have HHS := Lib.hid hhs
          have HROW3 := Lib.hid (hrow3.keep (Kept.alloc _ wr (.cells #[.slice A' x.rows[k].length c'] 45)))
          have hlow := HR.out.low
          have hhigh := HR.out.high
          clear hvl hown hlk hhs hrow2 hrow3 hrel2 hoi hbi
          go_wp2_with (at_builtin; go_must (refine wpList_app rfl (.tmp 39) (.tmp 41) rfl tiR rfl HOWN.out rfl (Blk.rd (Blk.new _ _ _)) rfl (by simp [Value.oneCell']) (by omega) (by decide) (by simp; omega) ?_); intro A4 c4 w4 hown4 hg4 hat4)
          go_roundw
          case rel =>
            refine ⟨k + 1, A4, c4, w4.heap.size, by omega, by go_num, rfl, ?_⟩
            have hlow2 : ∀ b, ob Ar = some b → w.heap.size + 2 ≤ b := fun b hb => (HOWN.out.blk hb).1
            have hold := HREL2.out.own
            have hsz4 := hg4.size
            simp at hsz4
            have hne : ∀ i, i < H → ob Ar ≠ some i → ob A4 ≠ some i := by
              intro i hi h1 h2
              rcases hat4 with e | e <;> rw [e] at h2
              · exact h1 h2
              · simp at h2; omega
            refine ⟨Ext.grown HREL2.out.ext hg4 (fun b hb => by have := hlow2 b hb; omega), by omega, Nat.le_refl _, HREL2.out.box.keep (Kept.of_grown hg4 ?_), HREL2.out.res.keep (Kept.of_grown hg4 ?_), ?_, ?_, ?_⟩
            · rintro b rfl _ hb
              have := hlow2 _ hb.symm
              omega
            · rintro b rfl _ hb
              have := hlow2 _ hb.symm
              omega
            · refine (Strs.mono HREL2.out.cols (T := fun b => w.heap.size + 2 ≤ b ∧ b < w4.heap.size ∧ ob A4 ≠ some b ∧ ob Ar ≠ some b) (fun i _ hi => ⟨hi.1, by omega, hne i hi.2.1 hi.2.2, hi.2.2⟩)).keep (Kept.of_grown hg4 (fun b hb _ h => hb.2.2.2 h.symm)) |>.mono (fun i _ hi => ⟨hi.1, hi.2.1, hi.2.2.1⟩)
            · rw [List.take_succ_eq_append_getElem hlt]
              refine OwnRs.push (w := wr.alloc (.cells #[.slice A' x.rows[k].length c'] 45)) (by rw [HLK.out]; exact HHS.out) ?_ (by rw [HLK.out]; exact hown4) hg4 hat4 HCRR.out ?_
              · intro i r hr
                obtain ⟨B6, e6, h6, hcp, h7⟩ := HVL.out i r hr
                exact ⟨B6, e6, h6, hcp, h7.mono fun i _ hi => ⟨hi.1, hi.2.1, by omega⟩⟩
              · refine HROW3.out.mono fun i hi0 hi => ⟨fun h0 => ?_, by omega, by simp at hi0; omega⟩
                have := hold i h0
                omega
            · intro b hb
              have := hown4.blk hb
              omega
          case measure => simp [intOf]; omega
    · have hke : k = x.rows.length := by omega
      subst hke
      clear hR
      have hbox := HR.out.box
      have hres := HR.out.res
      have hext := HR.out.ext
      have g0 := hbox.cell (i := 0) rfl
      have g1 := hbox.cell (i := 1) rfl
      have g2 := hbox.cell (i := 2) rfl
      have g3 := hbox.cell (i := 3) rfl
      have g4 := hbox.cell (i := 4) rfl
      have g5 := hbox.cell (i := 5) rfl
      have g6 := hbox.cell (i := 6) rfl
      have f0 := hbox.frozen
      have r0 := hres.cell (i := 0) rfl
      have r1 := hres.cell (i := 1) rfl
      have r2 := hres.cell (i := 2) rfl
      have r3 := hres.cell (i := 3) rfl
      have r4 := hres.cell (i := 4) rfl
      have r5 := hres.cell (i := 5) rfl
      have r6 := hres.cell (i := 6) rfl
      have f1 := hres.frozen
      have z1 := hbox.lt
      have z2 := hres.lt
      have HE := Lib.hid hext
      clear hbox hres hext
      go_wp2
      have hkept : ∀ wz : World, Kept (fun b => w.heap.size + 2 ≤ b) wr wz → RV wz (Fresh w) q x A1 Ar := by
        intro wz hkz
        have hcols := HR.out.cols.mono (T := fun b => w.heap.size + 2 ≤ b) (fun i _ hi => hi.1)
        have hrs := HR.out.rows
        rw [List.take_of_length_le (Nat.le_refl _)] at hrs
        have hrows : Rows wr (fun b => w.heap.size + 2 ≤ b) q Ar x.rows := hrs.rows hlen (fun b hb => (hrs.blk hb).1) (fun b hb => hb.1)
        exact (RV.mk HX.out.size (hcols.keep hkz) (hrows.keep hkz)).mono (fun i _ hi => by unfold Fresh; omega)
      have HK := Lib.hid hkept
      have HCAP := Lib.hid (show x.rows.length ≤ cr by
        have hrs := HR.out.rows
        rw [List.take_of_length_le (Nat.le_refl _)] at hrs
        obtain ⟨xs0, ho0, _⟩ := hrs
        exact ho0.cap)
      clear hkept
      refine bodyPost_ret (v := (.agg #[.int .i64 x.kind, .string x.s, .int .i64 x.dn, .int .i64 x.ds, .int .i64 x.n, .slice A1 x.cols.length c1, .slice Ar x.rows.length cr])) (by simp [results, Tryz.results47, go_sem, r0, r1, r2, r3, r4, r5, r6]) rfl ⟨A1, c1, Ar, cr, rfl, ⟨hcc1, HCAP.out⟩, HK.out _ ?_, ?_⟩
      · iterate 8 with_reducible refine Kept.set2 ?_ (by show ¬ (_ ≤ _); omega)
        with_reducible exact Kept.refl _ _
      · iterate 8 with_reducible refine Ext.set2 ?_ (by omega) _
        with_reducible exact HE.out

theorem value_Copy (q : Nat) : PCopy q := by
  induction q with
  | zero => exact value_Copy_step 0 (fun h => absurd h (by omega))
  | succ q ih => exact value_Copy_step (q + 1) (fun _ => ih)
end Go.Proofs.YtcmmkeiiapbgcaaGreatDoor
/- Names and texts: value.letter, value.isName, value.isText answer by the bytes alone. No conditions but a bound on the text's size. -/
namespace Go.Proofs.YtcmmkeiiapbgcaaGreatDoor
open Go Go.RowKit

def letterB (c : Int) : Bool := decide (97 ≤ c ∧ c ≤ 122 ∨ 65 ≤ c ∧ c ≤ 90)
def nameC (c : Int) : Bool := letterB c || decide (c = 95) || decide (48 ≤ c ∧ c ≤ 57)
def textC (c : Int) : Bool := decide (32 ≤ c ∧ c ≤ 126)
/-- The bytes of a text as numbers. -/
def bs (s : ByteArray) : List Int := s.data.toList.map fun c => (c.toNat : Int)
theorem bs_len (s : ByteArray) : (bs s).length = s.size := by simp [bs]
theorem bs_at (s : ByteArray) (k : Nat) (h : k < s.size) : (bs s)[k]'(by rw [bs_len]; exact h) = (s[k].toNat : Int) := by simp [bs]; rfl
def nameB (s : ByteArray) : Bool := decide (1 ≤ s.size ∧ s.size ≤ 20) && ((bs s).head?.any letterB) && (bs s).all nameC
def textB (s : ByteArray) : Bool := decide (s.size ≤ 200) && (bs s).all textC
def SameB (w : World) (b : Bool) (e : Ending) (w' : World) : Prop := e = .returned (.bool b) ∧ w = w'
theorem SameB.ret {w : World} {b : Bool} {e : Ending} {w' : World} (h : SameB w b e w') : RetB w b e w' := by
  obtain ⟨he, rfl⟩ := h
  exact ⟨he, Ext.refl w⟩

set_option maxRecDepth 100000 in
set_option maxHeartbeats 400000 in
theorem value_letter (c : Int) (w : World) : Calls Tryz.prog 148 #[.int .u8 c] w (SameB w (letterB c)) := by
  go_enter Tryz.func148, Tryz.ntmps148
  go_wp2
  all_goals
    go_ret
    refine ⟨?_, rfl⟩
    simp only [letterB]
    simp
    first | done | (rw [Bool.eq_iff_iff]; simp; omega) | omega

theorem all_take {α : Type} (l : List α) (p : α → Bool) : (∀ j (h : j < l.length), p l[j] = true) → l.all p = true := by
  intro h
  rw [List.all_eq_true]
  intro x hx
  obtain ⟨i, hi, rfl⟩ := List.mem_iff_getElem.1 hx
  exact h i hi
theorem all_not {α : Type} (l : List α) (p : α → Bool) (j : Nat) (h : j < l.length) (hp : p l[j] = false) : l.all p = false := by
  rw [List.all_eq_false]
  exact ⟨l[j], List.getElem_mem h, by simp [hp]⟩

set_option maxRecDepth 100000 in
set_option maxHeartbeats 400000 in
theorem value_isText (s : ByteArray) (hs : s.size ≤ 4294967296) (w : World) : Calls Tryz.prog 92 #[.string s] w (SameB w (textB s)) := by
  go_enter Tryz.func92, Tryz.ntmps92
  go_wp2
  go_loop [6] (fun i => ∃ k : Nat, k ≤ s.size ∧ i = .int .i64 k ∧ ∀ j (h : j < s.size), j < k → textC (s[j].toNat : Int) = true) (fun i => s.size - (intOf i).toNat)
  case atStart => exact ⟨0, Nat.zero_le _, rfl, by intros; omega⟩
  case round =>
    obtain ⟨k, hk, rfl, hall⟩ := hrel
    have HA := Lib.hid hall
    clear hall
    by_cases hlt : k < s.size
    · by_cases ht : 32 ≤ (s[k].toNat : Int) ∧ (s[k].toNat : Int) ≤ 126
      · obtain ⟨h1, h2⟩ := ht
        go_wp2
        go_round
        case rel =>
          refine ⟨k + 1, by omega, by go_num, fun j h hj => ?_⟩
          by_cases hjk : j = k
          · subst hjk
            simp [textC]
            omega
          · exact HA.out j h (by omega)
        case measure => simp [intOf]; omega
      · have hf : textB s = false := by
          unfold textB
          rw [all_not (bs s) textC k (by rw [bs_len]; exact hlt) (by rw [bs_at s k hlt]; simp only [textC, decide_eq_false_iff_not]; exact ht)]
          simp
        have HF := Lib.hid hf
        clear hf
        by_cases h1 : 32 ≤ (s[k].toNat : Int)
        all_goals
          go_wp2
          go_ret
          exact ⟨by rw [HF.out]; rfl, rfl⟩
    · have hf : textB s = decide (s.size ≤ 200) := by
        unfold textB
        rw [all_take (bs s) textC (fun j h => by rw [bs_len] at h; rw [bs_at s j h]; exact HA.out j h (by omega))]
        simp
      have HF := Lib.hid hf
      clear hf
      go_wp2
      go_ret
      exact ⟨by rw [HF.out]; simp; omega, rfl⟩

set_option maxRecDepth 100000 in
set_option maxHeartbeats 400000 in
theorem value_isName (s : ByteArray) (hs : s.size ≤ 4294967296) (w : World) : Calls Tryz.prog 126 #[.string s] w (SameB w (nameB s)) := by
  by_cases h0 : s.size = 0
  · have he : s = ⟨#[]⟩ := by
      cases s
      simp [ByteArray.size] at h0
      rw [h0]
    subst he
    go_enter Tryz.func126, Tryz.ntmps126
    go_wp2
    go_ret
    exact ⟨rfl, rfl⟩
  have e1 : s.toList = [] → False := fun h => h0 (by have h2 := congrArg List.length h; rw [ByteArray.toList_eq, Array.length_toList] at h2; exact h2)
  have e2 : (s.toList.isEmpty) = false := by simpa using e1
  by_cases h20 : 20 < s.size
  · have hf : nameB s = false := by unfold nameB; simp; omega
    have HF := Lib.hid hf
    have h20' : (20 : Int) < (s.size : Int) := by omega
    clear hf
    go_enter Tryz.func126, Tryz.ntmps126
    go_wp2
    go_ret
    exact ⟨by rw [HF.out]; rfl, rfl⟩
  · have hp : 0 < s.size := by omega
    cases hl : letterB (s[0].toNat : Int)
    · have hf : nameB s = false := by
        unfold nameB
        have : (bs s).head? = some (s[0].toNat : Int) := by rw [List.head?_eq_getElem?, List.getElem?_eq_getElem (by rw [bs_len]; exact hp), bs_at s 0 hp]
        rw [this]
        simp [hl]
      have HF := Lib.hid hf
      have HL := Lib.hid hl
      clear hf hl
      go_enter Tryz.func126, Tryz.ntmps126
      go_wp2_with (go_at_call 148; refine (value_letter _ _).mono ?_; rintro e w' ⟨rfl, rfl⟩; rw [HL.out])
      go_ret
      exact ⟨by rw [HF.out]; rfl, rfl⟩
    · have hhd : (bs s).head?.any letterB = true := by
        have : (bs s).head? = some (s[0].toNat : Int) := by rw [List.head?_eq_getElem?, List.getElem?_eq_getElem (by rw [bs_len]; exact hp), bs_at s 0 hp]
        rw [this]
        simp [hl]
      have HHD := Lib.hid hhd
      have HL := Lib.hid hl
      clear hhd hl
      have h20' : (s.size : Int) ≤ 20 := by omega
      go_enter Tryz.func126, Tryz.ntmps126
      go_wp2_with (go_at_call 148; refine (value_letter _ _).mono ?_; rintro e w' ⟨rfl, rfl⟩; rw [HL.out])
      go_loop [19] (fun i => ∃ k : Nat, k ≤ s.size ∧ i = .int .i64 k ∧ ∀ j (h : j < s.size), j < k → nameC (s[j].toNat : Int) = true) (fun i => s.size - (intOf i).toNat)
      case atStart => exact ⟨0, Nat.zero_le _, rfl, by intros; omega⟩
      case round =>
        obtain ⟨k, hk, rfl, hall⟩ := hrel
        have HA := Lib.hid hall
        clear hall
        by_cases hlt : k < s.size
        · cases hn : nameC (s[k].toNat : Int)
          · have hf : nameB s = false := by
              unfold nameB
              rw [all_not (bs s) nameC k (by rw [bs_len]; exact hlt) (by rw [bs_at s k hlt]; exact hn)]
              simp
            have HF := Lib.hid hf
            have hlk : letterB (s[k].toNat : Int) = false ∧ ¬ ((s[k].toNat : Int) = 95) ∧ ¬ (48 ≤ (s[k].toNat : Int) ∧ (s[k].toNat : Int) ≤ 57) := by
              have h9 := hn
              simp [nameC] at h9
              exact ⟨h9.1.1, h9.1.2, fun h => by omega⟩
            obtain ⟨hk1, hk2, hk3⟩ := hlk
            have HK1 := Lib.hid hk1
            have hk4 : ((s[k].toNat : Int) != 95) = true := by rw [bne_iff_ne]; exact hk2
            clear hf hn hk1
            by_cases hk5 : (s[k].toNat : Int) < 48
            all_goals
              go_wp2_with (go_at_call 148; refine (value_letter _ _).mono ?_; rintro e w' ⟨rfl, rfl⟩; rw [HK1.out])
              go_ret
              exact ⟨by rw [HF.out]; rfl, rfl⟩
          · have HN := Lib.hid hn
            have hnn : letterB (s[k].toNat : Int) = true ∨ letterB (s[k].toNat : Int) = false ∧ ((s[k].toNat : Int) = 95 ∨ ((s[k].toNat : Int) ≠ 95 ∧ 48 ≤ (s[k].toNat : Int) ∧ (s[k].toNat : Int) ≤ 57)) := by
              cases hq : letterB (s[k].toNat : Int)
              · right
                refine ⟨rfl, ?_⟩
                simp [nameC, hq] at hn
                omega
              · left; rfl
            clear hn
            rcases hnn with h1 | ⟨h1, h2 | ⟨h2, h3, h4⟩⟩
            · have HK1 := Lib.hid h1
              clear h1
              go_wp2_with (go_at_call 148; refine (value_letter _ _).mono ?_; rintro e w' ⟨rfl, rfl⟩; rw [HK1.out])
              go_round
              case rel =>
                refine ⟨k + 1, by omega, by go_num, fun j h hj => ?_⟩
                by_cases hjk : j = k
                · subst hjk; exact HN.out
                · exact HA.out j h (by omega)
              case measure => simp [intOf]; omega
            · have HK1 := Lib.hid h1
              have h5 : ((s[k].toNat : Int) != 95) = false := by simp [h2]
              clear h1 h2
              go_wp2_with (go_at_call 148; refine (value_letter _ _).mono ?_; rintro e w' ⟨rfl, rfl⟩; rw [HK1.out])
              go_round
              case rel =>
                refine ⟨k + 1, by omega, by go_num, fun j h hj => ?_⟩
                by_cases hjk : j = k
                · subst hjk; exact HN.out
                · exact HA.out j h (by omega)
              case measure => simp [intOf]; omega
            · have HK1 := Lib.hid h1
              have h5 : ((s[k].toNat : Int) != 95) = true := by rw [bne_iff_ne]; exact h2
              clear h1 h2
              go_wp2_with (go_at_call 148; refine (value_letter _ _).mono ?_; rintro e w' ⟨rfl, rfl⟩; rw [HK1.out])
              go_round
              case rel =>
                refine ⟨k + 1, by omega, by go_num, fun j h hj => ?_⟩
                by_cases hjk : j = k
                · subst hjk; exact HN.out
                · exact HA.out j h (by omega)
              case measure => simp [intOf]; omega
        · have hf : nameB s = true := by
            unfold nameB
            rw [HHD.out, all_take (bs s) nameC (fun j h => by rw [bs_len] at h; rw [bs_at s j h]; exact HA.out j h (by omega))]
            simp
            omega
          have HF := Lib.hid hf
          clear hf
          go_wp2
          go_ret
          exact ⟨by rw [HF.out]; rfl, rfl⟩
end Go.Proofs.YtcmmkeiiapbgcaaGreatDoor
/- slices.Index and Contains of texts; which decimals and plain values are right. No conditions but that the arguments read as data. -/
namespace Go.Proofs.YtcmmkeiiapbgcaaGreatDoor
open Go Go.RowKit

def SameI (w : World) (n : Int) (e : Ending) (w' : World) : Prop := e = .returned (.int .i64 n) ∧ w = w'
def RetI (w : World) (n : Int) (e : Ending) (w' : World) : Prop := e = .returned (.int .i64 n) ∧ Ext w w'
/-- The place of a text in a list; -1 if it is not there. -/
def idxS (l : List ByteArray) (v : ByteArray) : Int := match l.findIdx? (fun s => decide (s = v)) with | some i => (i : Int) | none => -1
theorem idxS_found {l : List ByteArray} {v : ByteArray} {k : Nat} (hk : k < l.length) (h : ∀ j (hj : j < l.length), j < k → l[j] ≠ v) (hv : l[k] = v) : idxS l v = k := by
  unfold idxS
  have : l.findIdx? (fun s => decide (s = v)) = some k := by
    rw [List.findIdx?_eq_some_iff_getElem]
    exact ⟨hk, by simp [hv], fun j hj => by simp [h j (by omega) hj]⟩
  rw [this]
theorem idxS_none {l : List ByteArray} {v : ByteArray} (h : ∀ j (hj : j < l.length), l[j] ≠ v) : idxS l v = -1 := by
  unfold idxS
  have : l.findIdx? (fun s => decide (s = v)) = none := by
    rw [List.findIdx?_eq_none_iff]
    intro x hx
    obtain ⟨i, hi, rfl⟩ := List.mem_iff_getElem.1 hx
    simp [h i hi]
  rw [this]
theorem idxS_mem (l : List ByteArray) (v : ByteArray) : (0 ≤ idxS l v ↔ v ∈ l) := by
  unfold idxS
  cases h : l.findIdx? (fun s => decide (s = v)) with
  | none =>
    rw [List.findIdx?_eq_none_iff] at h
    simp
    intro hv
    have := h v hv
    simp at this
  | some i =>
    rw [List.findIdx?_eq_some_iff_getElem] at h
    obtain ⟨hi, h1, _⟩ := h
    simp at h1
    simp
    rw [← h1]
    exact List.getElem_mem hi
theorem idxS_at {l : List ByteArray} {v : ByteArray} (h : 0 ≤ idxS l v) : ∃ k : Nat, idxS l v = k ∧ ∃ hk : k < l.length, l[k] = v ∧ ∀ j (hj : j < l.length), j < k → l[j] ≠ v := by
  unfold idxS at h ⊢
  cases hf : l.findIdx? (fun s => decide (s = v)) with
  | none => rw [hf] at h; simp at h
  | some i =>
    rw [List.findIdx?_eq_some_iff_getElem] at hf
    obtain ⟨hi, h1, h2⟩ := hf
    refine ⟨i, rfl, hi, by simpa using h1, fun j hj hji => ?_⟩
    have := h2 j hji
    simpa using this
def memS (l : List ByteArray) (v : ByteArray) : Bool := decide (0 ≤ idxS l v)
theorem memS_iff (l : List ByteArray) (v : ByteArray) : memS l v = true ↔ v ∈ l := by simp [memS, idxS_mem]
theorem bytes_nil (s : ByteArray) : s.toList = [] ↔ s = ⟨#[]⟩ := by
  rw [ByteArray.toList_eq]
  constructor
  · intro h
    cases s
    simp at h
    rw [h]
  · rintro rfl; rfl

set_option maxRecDepth 100000 in
set_option maxHeartbeats 400000 in
theorem slices_Index (A : Option Addr) (c : Nat) (l : List ByteArray) (v : ByteArray) (w : World) (S : Nat → Prop) (h : Strs w S A l) :
    Calls Tryz.prog 45 #[.slice A l.length c, .string v] w (SameI w (idxS l v)) := by
  have hn := h.2.1
  go_enter Tryz.func45, Tryz.ntmps45
  go_wp2
  go_loop [8] (fun i => ∃ k : Nat, k ≤ l.length ∧ i = .int .i64 k ∧ ∀ j (h : j < l.length), j < k → l[j] ≠ v) (fun i => l.length - (intOf i).toNat)
  case atStart => exact ⟨0, Nat.zero_le _, rfl, by intros; omega⟩
  case round =>
    obtain ⟨k, hk, rfl, hall⟩ := hrel
    have HA := Lib.hid hall
    clear hall
    by_cases hlt : k < l.length
    · obtain ⟨b1, o1, rfl, z1, c1⟩ := h.at_ hlt
      by_cases hv : l[k] = v
      · have ht : (v.toList == l[k].toList) = true := by rw [bytes_beq]; simp [hv]
        have HV := Lib.hid hv
        clear hv
        go_wp2
        go_ret
        exact ⟨by rw [idxS_found hlt (fun j hj h => HA.out j hj h) HV.out]; rfl, rfl⟩
      · have ht : (v.toList == l[k].toList) = false := by rw [bytes_beq]; simp [Ne.symm hv]
        have HV := Lib.hid hv
        clear hv
        go_wp2
        go_round
        case rel =>
          refine ⟨k + 1, by omega, by go_num, fun j h hj => ?_⟩
          by_cases hjk : j = k
          · subst hjk; exact HV.out
          · exact HA.out j h (by omega)
        case measure => simp [intOf]; omega
    · go_wp2
      go_ret
      exact ⟨by rw [idxS_none (fun j hj => HA.out j hj (by omega))]; rfl, rfl⟩

set_option maxRecDepth 100000 in
set_option maxHeartbeats 400000 in
theorem slices_Contains (A : Option Addr) (c : Nat) (l : List ByteArray) (v : ByteArray) (w : World) (S : Nat → Prop) (h : Strs w S A l) :
    Calls Tryz.prog 72 #[.slice A l.length c, .string v] w (SameB w (memS l v)) := by
  have H := Lib.hid h
  clear h
  go_enter Tryz.func72, Tryz.ntmps72
  go_wp2_with (go_at_call 45; refine (slices_Index _ _ _ _ _ S H.out).mono ?_; rintro e w' ⟨rfl, rfl⟩)
  go_ret
  exact ⟨rfl, rfl⟩

def unitsB (n : Int) : Bool := decide (-1000000000000000 ≤ n ∧ n ≤ 1000000000000000)
def decR (n s : Int) : Bool := decide (0 ≤ s ∧ s ≤ 6) && unitsB n && decide (s = 0 ∨ n.tmod 10 ≠ 0)
set_option maxRecDepth 100000 in
set_option maxHeartbeats 400000 in
theorem decimal_within (n : Int) (w : World) : Calls Tryz.prog 125 #[.int .i64 n] w (SameB w (unitsB n)) := by
  by_cases h1 : -1000000000000000 ≤ n
  · by_cases h2 : n ≤ 1000000000000000
    · have h : unitsB n = true := by simp [unitsB, h1, h2]
      have H := Lib.hid h
      clear h
      go_enter Tryz.func125, Tryz.ntmps125
      go_wp2
      go_ret
      exact ⟨by rw [H.out]; rfl, rfl⟩
    · have h : unitsB n = false := by simp [unitsB, h1, h2]
      have H := Lib.hid h
      clear h
      go_enter Tryz.func125, Tryz.ntmps125
      go_wp2
      go_ret
      exact ⟨by rw [H.out]; rfl, rfl⟩
  · have h : unitsB n = false := by simp [unitsB, h1]
    have H := Lib.hid h
    clear h
    go_enter Tryz.func125, Tryz.ntmps125
    go_wp2
    go_ret
    exact ⟨by rw [H.out]; rfl, rfl⟩

set_option maxRecDepth 100000 in
set_option maxHeartbeats 400000 in
theorem decimal_Right (n s : Int) (w : World) : Calls Tryz.prog 93 #[.agg #[.int .i64 n, .int .i64 s]] w (RetB w (decR n s)) := by
  cases hu : unitsB n
  all_goals
    have HU := Lib.hid hu
    clear hu
    go_enter Tryz.func93, Tryz.ntmps93
    go_wp2_with (go_at_call 125; refine (decimal_within _ _).mono ?_; rintro e w' ⟨rfl, rfl⟩; rw [HU.out])
    all_goals
      go_ret
      refine ⟨?_, (Ext.refl _).alloc _⟩
      simp only [decR, HU.out]
      simp
      first | done | omega | (rw [Bool.eq_iff_iff]; simp; omega)

def bareB (x : Val) : Bool := decide (x.s = ⟨#[]⟩ ∧ x.dn = 0 ∧ x.ds = 0 ∧ x.n = 0 ∧ x.cols = [] ∧ x.rows = [])
set_option maxRecDepth 100000 in
set_option maxHeartbeats 400000 in
theorem value_bare (x : Val) (A B : Option Addr) (c e : Nat) (w : World) : Calls Tryz.prog 91 #[(.agg #[.int .i64 x.kind, .string x.s, .int .i64 x.dn, .int .i64 x.ds, .int .i64 x.n, .slice A x.cols.length c, .slice B x.rows.length e])] w (RetB w (bareB x)) := by
  go_enter Tryz.func91, Tryz.ntmps91
  go_wp2
  all_goals
    go_ret
    refine ⟨?_, (Ext.refl _).alloc _⟩
    simp_all [bareB, ← bytes_nil]
    try (rw [Bool.eq_iff_iff]; simp [List.length_eq_zero_iff])

/-- A value that is no table, and is right. -/
def flatB (x : Val) : Bool :=
  if x.kind = 0 then decide (0 ≤ x.n ∧ x.n ≤ 99) && bareB { x with n := 0 }
  else if x.kind = 1 then textB x.s && bareB { x with s := ⟨#[]⟩ }
  else if x.kind = 2 then decR x.dn x.ds && bareB { x with dn := 0, ds := 0 }
  else if x.kind = 3 then decide (0 ≤ x.n ∧ x.n ≤ 3652058) && bareB { x with n := 0 }
  else if x.kind = 4 then decide (x.n = 0 ∨ x.n = 1) && bareB { x with n := 0 }
  else false

set_option maxRecDepth 100000 in
set_option maxHeartbeats 400000 in
theorem value_Right_0 (x : Val) (A B : Option Addr) (c e : Nat) (w : World) (hk : x.kind = 0) (_hs : x.s.size ≤ 4294967296) : Calls Tryz.prog 52 #[(.agg #[.int .i64 x.kind, .string x.s, .int .i64 x.dn, .int .i64 x.ds, .int .i64 x.n, .slice A x.cols.length c, .slice B x.rows.length e])] w (RetB w (flatB x)) := by
  have hf : flatB x = (decide (0 ≤ x.n ∧ x.n ≤ 99) && bareB { x with n := 0 }) := by simp [flatB, hk]
  have HF := Lib.hid hf
  have k0 : (x.kind == 0) = true := by simp [hk]
  have k1 : (x.kind == 1) = false := by simp [hk]
  have k2 : (x.kind == 2) = false := by simp [hk]
  have k3 : (x.kind == 3) = false := by simp [hk]
  have k4 : (x.kind == 4) = false := by simp [hk]
  have k5 : (x.kind == 5) = false := by simp [hk]
  clear hf hk
  by_cases h1 : 0 ≤ x.n
  · by_cases h2 : x.n ≤ 99
    · go_enter Tryz.func52, Tryz.ntmps52
      go_wp2_with fail
      refine (value_bare { x with n := 0 } A B c e _).mono ?_
      rintro e1 w1 ⟨rfl, hx1⟩
      have HX := Lib.hid hx1
      clear hx1
      go_wp2
      go_ret
      exact ⟨by rw [HF.out]; simp [h1, h2], Ext.trans (((Ext.refl w).alloc _).alloc _) HX.out⟩
    · go_enter Tryz.func52, Tryz.ntmps52
      go_wp2
      go_ret
      exact ⟨by rw [HF.out, decide_eq_false (by omega), Bool.false_and]; rfl, ((Ext.refl w).alloc _).alloc _⟩
  · go_enter Tryz.func52, Tryz.ntmps52
    go_wp2
    go_ret
    exact ⟨by rw [HF.out, decide_eq_false (by omega), Bool.false_and]; rfl, ((Ext.refl w).alloc _).alloc _⟩

set_option maxRecDepth 100000 in
set_option maxHeartbeats 400000 in
theorem value_Right_1 (x : Val) (A B : Option Addr) (c e : Nat) (w : World) (hk : x.kind = 1) (hs : x.s.size ≤ 4294967296) : Calls Tryz.prog 52 #[(.agg #[.int .i64 x.kind, .string x.s, .int .i64 x.dn, .int .i64 x.ds, .int .i64 x.n, .slice A x.cols.length c, .slice B x.rows.length e])] w (RetB w (flatB x)) := by
  have hf : flatB x = (textB x.s && bareB { x with s := ⟨#[]⟩ }) := by simp [flatB, hk]
  have HF := Lib.hid hf
  have k0 : (x.kind == 0) = false := by simp [hk]
  have k1 : (x.kind == 1) = true := by simp [hk]
  have k2 : (x.kind == 2) = false := by simp [hk]
  have k3 : (x.kind == 3) = false := by simp [hk]
  have k4 : (x.kind == 4) = false := by simp [hk]
  have k5 : (x.kind == 5) = false := by simp [hk]
  clear hf hk
  cases ht : textB x.s
  · have HT := Lib.hid ht
    clear ht
    go_enter Tryz.func52, Tryz.ntmps52
    go_wp2_with (go_at_call 92; refine (value_isText _ hs _).mono ?_; rintro e w' ⟨rfl, rfl⟩; rw [HT.out])
    go_ret
    exact ⟨by rw [HF.out, HT.out]; rfl, ((Ext.refl w).alloc _).alloc _⟩
  · have HT := Lib.hid ht
    clear ht
    go_enter Tryz.func52, Tryz.ntmps52
    go_wp2_with (go_at_call 92; refine (value_isText _ hs _).mono ?_; rintro e w' ⟨rfl, rfl⟩; rw [HT.out])
    refine (value_bare { x with s := ⟨#[]⟩ } A B c e _).mono ?_
    rintro e1 w1 ⟨rfl, hx1⟩
    have HX := Lib.hid hx1
    clear hx1
    go_wp2
    go_ret
    exact ⟨by rw [HF.out, HT.out]; rfl, Ext.trans (((Ext.refl w).alloc _).alloc _) HX.out⟩

set_option maxRecDepth 100000 in
set_option maxHeartbeats 400000 in
theorem value_Right_2 (x : Val) (A B : Option Addr) (c e : Nat) (w : World) (hk : x.kind = 2) (_hs : x.s.size ≤ 4294967296) : Calls Tryz.prog 52 #[(.agg #[.int .i64 x.kind, .string x.s, .int .i64 x.dn, .int .i64 x.ds, .int .i64 x.n, .slice A x.cols.length c, .slice B x.rows.length e])] w (RetB w (flatB x)) := by
  have hf : flatB x = (decR x.dn x.ds && bareB { x with dn := 0, ds := 0 }) := by simp [flatB, hk]
  have HF := Lib.hid hf
  have k0 : (x.kind == 0) = false := by simp [hk]
  have k1 : (x.kind == 1) = false := by simp [hk]
  have k2 : (x.kind == 2) = true := by simp [hk]
  have k3 : (x.kind == 3) = false := by simp [hk]
  have k4 : (x.kind == 4) = false := by simp [hk]
  have k5 : (x.kind == 5) = false := by simp [hk]
  clear hf hk
  go_enter Tryz.func52, Tryz.ntmps52
  go_wp2_with fail
  refine (decimal_Right x.dn x.ds _).mono ?_
  rintro e1 w1 ⟨rfl, hx1⟩
  obtain ⟨hc1, hf1⟩ := bcell hx1
  have hz1 := hx1.size
  simp at hc1 hf1 hz1
  have hz2 : w.heap.size < w1.heap.size := by omega
  have hz3 : w.heap.size + 1 < w1.heap.size := by omega
  have HX := Lib.hid hx1
  cases ht : decR x.dn x.ds
  · have HT := Lib.hid ht
    clear ht hx1
    go_wp2
    go_ret
    exact ⟨by rw [HF.out, HT.out]; rfl, Ext.trans ((((Ext.refl w).alloc _).alloc _)) HX.out⟩
  · have HT := Lib.hid ht
    clear ht hx1
    go_wp2_with fail
    refine (value_bare { x with dn := 0, ds := 0 } A B c e _).mono ?_
    rintro e1 w2 ⟨rfl, hx2⟩
    have HX2 := Lib.hid hx2
    clear hx2
    go_wp2
    go_ret
    exact ⟨by rw [HF.out, HT.out]; rfl, Ext.trans (((Ext.refl w).alloc _).alloc _) (Ext.trans HX.out HX2.out)⟩

set_option maxRecDepth 100000 in
set_option maxHeartbeats 400000 in
theorem value_Right_3 (x : Val) (A B : Option Addr) (c e : Nat) (w : World) (hk : x.kind = 3) (_hs : x.s.size ≤ 4294967296) : Calls Tryz.prog 52 #[(.agg #[.int .i64 x.kind, .string x.s, .int .i64 x.dn, .int .i64 x.ds, .int .i64 x.n, .slice A x.cols.length c, .slice B x.rows.length e])] w (RetB w (flatB x)) := by
  have hf : flatB x = (decide (0 ≤ x.n ∧ x.n ≤ 3652058) && bareB { x with n := 0 }) := by simp [flatB, hk]
  have HF := Lib.hid hf
  have k0 : (x.kind == 0) = false := by simp [hk]
  have k1 : (x.kind == 1) = false := by simp [hk]
  have k2 : (x.kind == 2) = false := by simp [hk]
  have k3 : (x.kind == 3) = true := by simp [hk]
  have k4 : (x.kind == 4) = false := by simp [hk]
  have k5 : (x.kind == 5) = false := by simp [hk]
  clear hf hk
  by_cases h1 : 0 ≤ x.n
  · by_cases h2 : x.n ≤ 3652058
    · go_enter Tryz.func52, Tryz.ntmps52
      go_wp2_with fail
      refine (value_bare { x with n := 0 } A B c e _).mono ?_
      rintro e1 w1 ⟨rfl, hx1⟩
      have HX := Lib.hid hx1
      clear hx1
      go_wp2
      go_ret
      exact ⟨by rw [HF.out]; simp [h1, h2], Ext.trans (((Ext.refl w).alloc _).alloc _) HX.out⟩
    · go_enter Tryz.func52, Tryz.ntmps52
      go_wp2
      go_ret
      exact ⟨by rw [HF.out, decide_eq_false (by omega), Bool.false_and]; rfl, ((Ext.refl w).alloc _).alloc _⟩
  · go_enter Tryz.func52, Tryz.ntmps52
    go_wp2
    go_ret
    exact ⟨by rw [HF.out, decide_eq_false (by omega), Bool.false_and]; rfl, ((Ext.refl w).alloc _).alloc _⟩

set_option maxRecDepth 100000 in
set_option maxHeartbeats 400000 in
theorem value_Right_4 (x : Val) (A B : Option Addr) (c e : Nat) (w : World) (hk : x.kind = 4) (_hs : x.s.size ≤ 4294967296) : Calls Tryz.prog 52 #[(.agg #[.int .i64 x.kind, .string x.s, .int .i64 x.dn, .int .i64 x.ds, .int .i64 x.n, .slice A x.cols.length c, .slice B x.rows.length e])] w (RetB w (flatB x)) := by
  have hf : flatB x = (decide (x.n = 0 ∨ x.n = 1) && bareB { x with n := 0 }) := by simp [flatB, hk]
  have HF := Lib.hid hf
  have k0 : (x.kind == 0) = false := by simp [hk]
  have k1 : (x.kind == 1) = false := by simp [hk]
  have k2 : (x.kind == 2) = false := by simp [hk]
  have k3 : (x.kind == 3) = false := by simp [hk]
  have k4 : (x.kind == 4) = true := by simp [hk]
  have k5 : (x.kind == 5) = false := by simp [hk]
  clear hf hk
  by_cases h1 : x.n = 0
  · have h3 : (x.n == 0) = true := by simp [h1]
    have H1 := Lib.hid h1
    clear h1
    go_enter Tryz.func52, Tryz.ntmps52
    go_wp2_with fail
    refine (value_bare { x with n := 0 } A B c e _).mono ?_
    rintro e1 w1 ⟨rfl, hx1⟩
    have HX := Lib.hid hx1
    clear hx1
    go_wp2
    go_ret
    exact ⟨by rw [HF.out]; simp [H1.out], Ext.trans (((Ext.refl w).alloc _).alloc _) HX.out⟩
  · have h3 : (x.n == 0) = false := by simp [h1]
    by_cases h2 : x.n = 1
    · have h4 : (x.n == 1) = true := by simp [h2]
      have H1 := Lib.hid h2
      clear h1 h2
      go_enter Tryz.func52, Tryz.ntmps52
      go_wp2_with fail
      refine (value_bare { x with n := 0 } A B c e _).mono ?_
      rintro e1 w1 ⟨rfl, hx1⟩
      have HX := Lib.hid hx1
      clear hx1
      go_wp2
      go_ret
      exact ⟨by rw [HF.out]; simp [H1.out], Ext.trans (((Ext.refl w).alloc _).alloc _) HX.out⟩
    · have h4 : (x.n == 1) = false := by simp [h2]
      go_enter Tryz.func52, Tryz.ntmps52
      go_wp2
      go_ret
      exact ⟨by rw [HF.out]; simp [h1, h2], ((Ext.refl w).alloc _).alloc _⟩

set_option maxRecDepth 100000 in
set_option maxHeartbeats 400000 in
theorem value_Right_x (x : Val) (A B : Option Addr) (c e : Nat) (w : World) (h0 : x.kind ≠ 0) (h1 : x.kind ≠ 1) (h2 : x.kind ≠ 2) (h3 : x.kind ≠ 3) (h4 : x.kind ≠ 4) (h5 : x.kind ≠ 5) : Calls Tryz.prog 52 #[(.agg #[.int .i64 x.kind, .string x.s, .int .i64 x.dn, .int .i64 x.ds, .int .i64 x.n, .slice A x.cols.length c, .slice B x.rows.length e])] w (RetB w (flatB x)) := by
  have hf : flatB x = false := by simp [flatB, h0, h1, h2, h3, h4]
  have HF := Lib.hid hf
  have k0 : (x.kind == 0) = false := by simp [h0]
  have k1 : (x.kind == 1) = false := by simp [h1]
  have k2 : (x.kind == 2) = false := by simp [h2]
  have k3 : (x.kind == 3) = false := by simp [h3]
  have k4 : (x.kind == 4) = false := by simp [h4]
  have k5 : (x.kind == 5) = false := by simp [h5]
  clear hf h0 h1 h2 h3 h4 h5
  go_enter Tryz.func52, Tryz.ntmps52
  go_wp2
  go_ret
  exact ⟨by rw [HF.out]; rfl, ((Ext.refl w).alloc _).alloc _⟩

theorem value_Right_flat (x : Val) (A B : Option Addr) (c e : Nat) (w : World) (h5 : x.kind ≠ 5) (hs : x.s.size ≤ 4294967296) : Calls Tryz.prog 52 #[(.agg #[.int .i64 x.kind, .string x.s, .int .i64 x.dn, .int .i64 x.ds, .int .i64 x.n, .slice A x.cols.length c, .slice B x.rows.length e])] w (RetB w (flatB x)) := by
  by_cases h0 : x.kind = 0
  · exact value_Right_0 x A B c e w h0 hs
  by_cases h1 : x.kind = 1
  · exact value_Right_1 x A B c e w h1 hs
  by_cases h2 : x.kind = 2
  · exact value_Right_2 x A B c e w h2 hs
  by_cases h3 : x.kind = 3
  · exact value_Right_3 x A B c e w h3 hs
  by_cases h4 : x.kind = 4
  · exact value_Right_4 x A B c e w h4 hs
  exact value_Right_x x A B c e w h0 h1 h2 h3 h4 h5
end Go.Proofs.YtcmmkeiiapbgcaaGreatDoor
/- Which tables are right: value.rightTable, value.Right. No conditions but that the arguments read as data. -/
namespace Go.Proofs.YtcmmkeiiapbgcaaGreatDoor
open Go Go.RowKit

def colOK (cols : List ByteArray) (i : Nat) : Bool := nameB (cols.getD i ⟨#[]⟩) && !memS (cols.take i) (cols.getD i ⟨#[]⟩)
def cellOK (x : Val) : Bool := decide (x.kind ≠ 5) && flatB x
def rowOK (n : Nat) (r : List Val) : Bool := decide (r.length = n) && r.all cellOK
def tableR (cols : List ByteArray) (rows : List (List Val)) : Bool :=
  decide (cols.length ≤ 8 ∧ rows.length ≤ 100) && (List.range cols.length).all (colOK cols) && rows.all (rowOK cols.length)
def rightB (x : Val) : Bool := if x.kind = 5 then tableR x.cols x.rows && bareB { x with cols := [], rows := [] } else flatB x

theorem Strs.take {w : World} {S : Nat → Prop} {A : Option Addr} {l : List ByteArray} (h : Strs w S A l) (k : Nat) : Strs w S A (l.take k) :=
  ⟨by rw [List.map_take]; exact h.1.take k, by rw [List.length_take]; have := h.2.1; omega, fun s hs => h.2.2 s (List.mem_of_mem_take hs)⟩
theorem getD_of {α : Type} (l : List α) (i : Nat) (z : α) (h : i < l.length) : l.getD i z = l[i] := by simp [h]

theorem range_all {n : Nat} {p : Nat → Bool} (h : ∀ j, j < n → p j = true) : (List.range n).all p = true := by
  rw [List.all_eq_true]
  intro x hx
  exact h x (List.mem_range.1 hx)
theorem range_not {n : Nat} {p : Nat → Bool} {j : Nat} (hj : j < n) (h : p j = false) : (List.range n).all p = false := by
  rw [List.all_eq_false]
  exact ⟨j, List.mem_range.2 hj, by simp [h]⟩

set_option maxRecDepth 100000 in
set_option maxHeartbeats 1000000 in
theorem value_rightTable (q : Nat) (cols : List ByteArray) (rows : List (List Val)) (A B : Option Addr) (c e : Nat) (w : World) (S T : Nat → Prop) (hA : Strs w S A cols) (hB : Rows w T q B rows) (hcap : cols.length ≤ c) :
    Calls Tryz.prog 94 #[.slice A cols.length c, .slice B rows.length e] w (RetB w (tableR cols rows)) := by
  have hn := hA.2.1
  have hm := hB.len
  by_cases h1 : cols.length ≤ 8
  case neg =>
    have HF := Lib.hid (show tableR cols rows = false by unfold tableR; rw [decide_eq_false (by omega)]; rfl)
    have h1' : (8 : Int) < (cols.length : Int) := by omega
    go_enter Tryz.func94, Tryz.ntmps94
    go_wp2
    go_ret
    exact ⟨by rw [HF.out]; rfl, Ext.refl _⟩
  by_cases h2 : rows.length ≤ 100
  case neg =>
    have HF := Lib.hid (show tableR cols rows = false by unfold tableR; rw [decide_eq_false (by omega)]; rfl)
    have h1' : ¬ (8 : Int) < (cols.length : Int) := by omega
    have h2' : (100 : Int) < (rows.length : Int) := by omega
    go_enter Tryz.func94, Tryz.ntmps94
    go_wp2
    go_ret
    exact ⟨by rw [HF.out]; rfl, Ext.refl _⟩
  have h1' : ¬ (8 : Int) < (cols.length : Int) := by omega
  have h2' : ¬ (100 : Int) < (rows.length : Int) := by omega
  have h3' : (cols.length : Int) ≤ 8 := by omega
  have h4' : (rows.length : Int) ≤ 100 := by omega
  go_enter Tryz.func94, Tryz.ntmps94
  go_wp2
  go_loop [21] (fun i => ∃ k : Nat, k ≤ cols.length ∧ i = .int .i64 k ∧ ∀ j, j < k → colOK cols j = true) (fun i => cols.length - (intOf i).toNat)
  case atStart => exact ⟨0, Nat.zero_le _, rfl, by intros; omega⟩
  case round =>
    obtain ⟨k, hk, rfl, hall⟩ := hrel
    have HA := Lib.hid hall
    clear hall
    by_cases hlt : k < cols.length
    · obtain ⟨b1, o1, rfl, z1, c1⟩ := hA.at_ hlt
      have hsz := hA.sz hlt
      have HTK := Lib.hid (hA.take k)
      have hlk : (cols.take k).length = k := by rw [List.length_take]; omega
      cases hnm : nameB cols[k]
      · have HF := Lib.hid (show tableR cols rows = false by unfold tableR; rw [range_not hlt (by unfold colOK; rw [getD_of _ _ _ hlt, hnm]; rfl)]; simp)
        have HN := Lib.hid hnm
        clear hnm
        go_wp2_with (go_at_call 126; refine (value_isName _ hsz _).mono ?_; rintro e1 w1 ⟨rfl, rfl⟩; rw [HN.out])
        go_ret
        exact ⟨by rw [HF.out]; rfl, Ext.refl _⟩
      · have HN := Lib.hid hnm
        have HCON := Lib.hid (slices_Contains (some ⟨b1, o1, none⟩) c (cols.take k) cols[k] w S HTK.out)
        rw [hlk] at HCON
        cases hmm : memS (cols.take k) cols[k]
        · have HM := Lib.hid hmm
          have HC := Lib.hid (show colOK cols k = true by unfold colOK; rw [getD_of _ _ _ hlt, hnm, hmm]; rfl)
          clear hnm hmm hlk
          go_wp2_with (first | (go_at_call 126; refine (value_isName _ hsz _).mono ?_; rintro e1 w1 ⟨rfl, rfl⟩; rw [HN.out]) | (go_at_call 72; refine HCON.out.mono ?_; rintro e1 w1 ⟨rfl, rfl⟩; rw [HM.out]))
          go_round
          case rel =>
            refine ⟨k + 1, by omega, by go_num, fun j hj => ?_⟩
            by_cases hjk : j = k
            · subst hjk; exact HC.out
            · exact HA.out j (by omega)
          case measure => simp [intOf]; omega
        · have HM := Lib.hid hmm
          have HF := Lib.hid (show tableR cols rows = false by unfold tableR; rw [range_not hlt (by unfold colOK; rw [getD_of _ _ _ hlt, hnm, hmm]; rfl)]; simp)
          clear hnm hmm hlk
          go_wp2_with (first | (go_at_call 126; refine (value_isName _ hsz _).mono ?_; rintro e1 w1 ⟨rfl, rfl⟩; rw [HN.out]) | (go_at_call 72; refine HCON.out.mono ?_; rintro e1 w1 ⟨rfl, rfl⟩; rw [HM.out]))
          go_ret
          exact ⟨by rw [HF.out]; rfl, Ext.refl _⟩
    · have HCOL := Lib.hid (range_all (n := cols.length) (p := colOK cols) (fun j hj => HA.out j (by omega)))
      go_wp2
      go_loopw [39] (fun i wr => ∃ k : Nat, k ≤ rows.length ∧ i = .int .i64 k ∧ Ext w wr ∧ ∀ j (h : j < rows.length), j < k → rowOK cols.length rows[j] = true) (fun i _ => rows.length - (intOf i).toNat)
      case atStart => exact ⟨0, Nat.zero_le _, rfl, Ext.refl _, by intros; omega⟩
      case round =>
        rename_i k0 _ _ _ _
        obtain ⟨i, hi, rfl, hext, hall⟩ := hrel
        have HR := Lib.hid hall
        have HE := Lib.hid hext
        clear hall
        by_cases hlt2 : i < rows.length
        · obtain ⟨b1, o1, A2, c2, rfl, z1, p0, hcr, hrow⟩ := (hB.keep (hext.kept T)).at_ hlt2
          have hrl := hrow.len
          have HROW := Lib.hid hrow
          clear hrow hext
          by_cases hln : rows[i].length = cols.length
          · have hn1 : ((rows[i].length : Int) != (cols.length : Int)) = false := by simp [hln]
            have HLN := Lib.hid hln
            clear hln
            go_wp2
            obtain ⟨wo, rfl⟩ : ∃ wo : World, wo = wr := ⟨_, rfl⟩
            go_loopw [50] (fun v wi => ∃ j : Nat, j ≤ rows[i].length ∧ v = .int .i64 j ∧ Ext wo wi ∧ ∀ m (h : m < rows[i].length), m < j → cellOK rows[i][m] = true) (fun v _ => rows[i].length - (intOf v).toNat)
            case atStart => exact ⟨0, Nat.zero_le _, rfl, Ext.refl _, by intros; omega⟩
            case round =>
              obtain ⟨j, hj, rfl, hexi, halli⟩ := hrel
              have HI := Lib.hid halli
              have HEI := Lib.hid hexi
              clear halli
              by_cases hlt3 : j < rows[i].length
              · obtain ⟨b2, o2, A5, c5, B5, e5, rfl, z2, ⟨p0, p1, p2, p3, p4, p5, p6⟩, ⟨hq, _, _⟩, hv⟩ := (HROW.out.keep (hexi.kept T)).at_ hlt3
                have hvs := hv.size
                clear hv hexi
                by_cases hk5 : rows[i][j].kind = 5
                · have hk5' : (rows[i][j].kind == 5) = true := by simp [hk5]
                  have HF := Lib.hid (show tableR cols rows = false by
                    unfold tableR
                    rw [all_not rows (rowOK cols.length) i hlt2 (by unfold rowOK; rw [all_not rows[i] cellOK j hlt3 (by simp [cellOK, hk5])]; simp)]
                    simp)
                  clear hk5
                  go_wp2
                  go_ret
                  exact ⟨by rw [HF.out]; rfl, HE.out.trans (HEI.out.alloc _)⟩
                · have hk5' : (rows[i][j].kind == 5) = false := by simp [hk5]
                  have HK5 := Lib.hid hk5
                  have HRF := Lib.hid (value_Right_flat rows[i][j] A5 B5 c5 e5 · hk5 hvs)
                  clear hk5
                  go_wp2_with fail
                  refine (HRF.out _).mono ?_
                  rintro e1 w1 ⟨rfl, hx1⟩
                  have HX1 := Lib.hid hx1
                  clear hx1
                  cases hfl : flatB rows[i][j]
                  · have HF := Lib.hid (show tableR cols rows = false by
                      unfold tableR
                      rw [all_not rows (rowOK cols.length) i hlt2 (by unfold rowOK; rw [all_not rows[i] cellOK j hlt3 (by simp [cellOK, hfl])]; simp)]
                      simp)
                    clear hfl
                    go_wp2
                    go_ret
                    exact ⟨by rw [HF.out]; rfl, HE.out.trans ((HEI.out.alloc _).trans HX1.out)⟩
                  · have HFL := Lib.hid (show cellOK rows[i][j] = true by simp [cellOK, hfl, HK5.out])
                    clear hfl
                    go_wp2
                    go_roundw
                    case rel =>
                      refine ⟨j + 1, by omega, by go_num, (HEI.out.alloc _).trans HX1.out, fun m h hm => ?_⟩
                      by_cases hjk : m = j
                      · subst hjk; exact HFL.out
                      · exact HI.out m h (by omega)
                    case measure => simp [intOf]; omega
              · have HRO := Lib.hid (show rowOK cols.length rows[i] = true by
                  unfold rowOK
                  rw [all_take rows[i] cellOK (fun m h => HI.out m h (by omega)), HLN.out]
                  simp)
                go_wp2
                go_roundw
                case rel =>
                  refine ⟨i + 1, by omega, by go_num, HE.out.trans HEI.out, fun j h hj => ?_⟩
                  by_cases hjk : j = i
                  · subst hjk; exact HRO.out
                  · exact HR.out j h (by omega)
                case measure => simp [intOf]; omega
          · have hn1 : ((rows[i].length : Int) != (cols.length : Int)) = true := by rw [bne_iff_ne]; omega
            have HF := Lib.hid (show tableR cols rows = false by
              unfold tableR
              rw [all_not rows (rowOK cols.length) i hlt2 (by unfold rowOK; rw [decide_eq_false hln]; rfl)]
              simp)
            clear hln
            go_wp2
            go_ret
            exact ⟨by rw [HF.out]; rfl, HE.out⟩
        · have HF := Lib.hid (show tableR cols rows = true by
            unfold tableR
            rw [HCOL.out, all_take rows (rowOK cols.length) (fun j h => HR.out j h (by omega)), decide_eq_true ⟨h1, h2⟩]
            rfl)
          clear hext
          go_wp2
          go_ret
          exact ⟨by rw [HF.out]; rfl, HE.out⟩

set_option maxRecDepth 100000 in
set_option maxHeartbeats 400000 in
theorem value_Right_5 (q : Nat) (x : Val) (A B : Option Addr) (c e : Nat) (w : World) (S : Nat → Prop) (h : RV w S q x A B) (hcap : x.cols.length ≤ c) (hk : x.kind = 5) : Calls Tryz.prog 52 #[(.agg #[.int .i64 x.kind, .string x.s, .int .i64 x.dn, .int .i64 x.ds, .int .i64 x.n, .slice A x.cols.length c, .slice B x.rows.length e])] w (RetB w (rightB x)) := by
  have hf : rightB x = (tableR x.cols x.rows && bareB { x with cols := [], rows := [] }) := by simp [rightB, hk]
  have HF := Lib.hid hf
  have H := Lib.hid h
  have k0 : (x.kind == 0) = false := by simp [hk]
  have k1 : (x.kind == 1) = false := by simp [hk]
  have k2 : (x.kind == 2) = false := by simp [hk]
  have k3 : (x.kind == 3) = false := by simp [hk]
  have k4 : (x.kind == 4) = false := by simp [hk]
  have k5 : (x.kind == 5) = true := by simp [hk]
  clear hf hk h
  go_enter Tryz.func52, Tryz.ntmps52
  go_wp2_with fail
  refine (value_rightTable q x.cols x.rows A B c e _ S S (H.out.strs.keep ((((Ext.refl w).alloc _).alloc _).kept _)) (H.out.rows_.keep ((((Ext.refl w).alloc _).alloc _).kept _)) hcap).mono ?_
  rintro e1 w1 ⟨rfl, hx1⟩
  obtain ⟨hc1, hf1⟩ := bcell hx1
  have hz1 := hx1.size
  simp at hc1 hf1 hz1
  have hz2 : w.heap.size < w1.heap.size := by omega
  have hz3 : w.heap.size + 1 < w1.heap.size := by omega
  have HX := Lib.hid hx1
  cases ht : tableR x.cols x.rows
  · have HT := Lib.hid ht
    clear ht hx1
    go_wp2
    go_ret
    exact ⟨by rw [HF.out, HT.out]; rfl, Ext.trans ((((Ext.refl w).alloc _).alloc _)) HX.out⟩
  · have HT := Lib.hid ht
    clear ht hx1
    go_wp2_with fail
    refine (value_bare { x with cols := [], rows := [] } none none 0 0 _).mono ?_
    rintro e1 w2 ⟨rfl, hx2⟩
    have HX2 := Lib.hid hx2
    clear hx2
    go_wp2
    go_ret
    exact ⟨by rw [HF.out, HT.out]; rfl, Ext.trans (((Ext.refl w).alloc _).alloc _) (Ext.trans HX.out HX2.out)⟩

theorem value_Right (q : Nat) (x : Val) (A B : Option Addr) (c e : Nat) (w : World) (S : Nat → Prop) (h : RV w S q x A B) (hcap : x.cols.length ≤ c) : Calls Tryz.prog 52 #[(.agg #[.int .i64 x.kind, .string x.s, .int .i64 x.dn, .int .i64 x.ds, .int .i64 x.n, .slice A x.cols.length c, .slice B x.rows.length e])] w (RetB w (rightB x)) := by
  by_cases hk : x.kind = 5
  · exact value_Right_5 q x A B c e w S h hcap hk
  · have := value_Right_flat x A B c e w hk h.size
    rwa [show flatB x = rightB x by simp [rightB, hk]] at this
end Go.Proofs.YtcmmkeiiapbgcaaGreatDoor
/- The program's table.isName, is, Right, isTable and Find. No conditions but that the arguments read as data. -/
namespace Go.Proofs.YtcmmkeiiapbgcaaGreatDoor
open Go Go.RowKit

def Val.zero : Val := ⟨0, ⟨#[]⟩, 0, 0, 0, [], []⟩
/-- A lookup table. -/
structure Look where
  name : ByteArray
  cols : List ByteArray
  rows : List (List Val)
def RL (w : World) (S : Nat → Prop) (d : Nat) (t : Look) (A B : Option Addr) : Prop := t.name.size ≤ 4294967296 ∧ Strs w S A t.cols ∧ Rows w S d B t.rows
theorem RL.keep {w w' : World} {S : Nat → Prop} {d : Nat} {t : Look} {A B : Option Addr} (h : RL w S d t A B) (k : Kept S w w') : RL w' S d t A B := ⟨h.1, h.2.1.keep k, h.2.2.keep k⟩
theorem RL.mono {w : World} {S T : Nat → Prop} {d : Nat} {t : Look} {A B : Option Addr} (h : RL w S d t A B) (k : ∀ i, i < w.heap.size → S i → T i) : RL w T d t A B := ⟨h.1, h.2.1.mono k, h.2.2.mono k⟩
theorem Rows.nil {w : World} {S : Nat → Prop} {d : Nat} {B : Option Addr} : Rows w S d B [] := ⟨by simp, [], Or.inl rfl, by simp, by simp⟩
theorem RV.zero {w : World} {S : Nat → Prop} {d : Nat} {A B : Option Addr} : RV w S d Val.zero A B := RV.mk (Nat.zero_le _) Strs.nil Rows.nil
/-- The value that a table is. -/
def tabV (cols : List ByteArray) (rows : List (List Val)) : Val := ⟨5, ⟨#[]⟩, 0, 0, 0, cols, rows⟩
theorem RL.val {w : World} {S : Nat → Prop} {d : Nat} {t : Look} {A B : Option Addr} (h : RL w S d t A B) : RV w S d (tabV t.cols t.rows) A B := RV.mk (Nat.zero_le _) h.2.1 h.2.2
theorem rightB_tab (cols : List ByteArray) (rows : List (List Val)) : rightB (tabV cols rows) = tableR cols rows := by simp [rightB, tabV, bareB]
theorem tableR_one (s : ByteArray) : tableR [s] [] = nameB s := by
  simp [tableR, colOK, memS, idxS]

set_option maxRecDepth 100000 in
set_option maxHeartbeats 400000 in
theorem table_isName (s : ByteArray) (hs : s.size ≤ 4294967296) (w : World) : Calls Tryz.prog 51 #[.string s] w (RetB w (nameB s)) := by
  go_enter Tryz.func51, Tryz.ntmps51
  go_wp2_with fail
  refine (value_Right 0 (tabV [s] []) (some ⟨w.heap.size, 0, none⟩) none 1 0 _ (fun _ => True) (RV.mk (Nat.zero_le _) ⟨?_, (by show (1 : Nat) ≤ _; omega), by simpa [tabV] using hs⟩ Rows.nil) (Nat.le_refl _)).mono ?_
  · exact (Blk.rd (Blk.new w 9 #[.string s])).mono fun _ _ _ => trivial
  rintro e1 w1 ⟨rfl, hx1⟩
  have HX := Lib.hid hx1
  clear hx1
  go_wp2
  go_ret
  exact ⟨by rw [rightB_tab, tableR_one]; rfl, ((Ext.refl w).alloc _).trans HX.out⟩

def isB (x v : Val) : Bool := decide (x.kind ≠ 0) && decide (x = v)
set_option maxRecDepth 100000 in
set_option maxHeartbeats 400000 in
theorem table_is (q : Nat) (x y : Val) (A B A' B' : Option Addr) (c e c' e' : Nat) (w : World) (S T : Nat → Prop) (hx : RV w S q x A B) (hy : RV w T q y A' B') :
    Calls Tryz.prog 46 #[(.agg #[.int .i64 x.kind, .string x.s, .int .i64 x.dn, .int .i64 x.ds, .int .i64 x.n, .slice A x.cols.length c, .slice B x.rows.length e]), (.agg #[.int .i64 y.kind, .string y.s, .int .i64 y.dn, .int .i64 y.ds, .int .i64 y.n, .slice A' y.cols.length c', .slice B' y.rows.length e'])] w (RetB w (isB x y)) := by
  have HX := Lib.hid hx
  have HY := Lib.hid hy
  clear hx hy
  by_cases hk : x.kind = 0
  · have k0 : (x.kind != 0) = false := by simp [hk]
    have HF := Lib.hid (show isB x y = false by simp [isB, hk])
    clear hk
    go_enter Tryz.func46, Tryz.ntmps46
    go_wp2
    go_ret
    exact ⟨by rw [HF.out]; rfl, ((Ext.refl w).alloc _).alloc _⟩
  · have k0 : (x.kind != 0) = true := by simp [hk]
    have HF := Lib.hid (show isB x y = decide (x = y) by simp [isB, hk])
    clear hk
    go_enter Tryz.func46, Tryz.ntmps46
    go_wp2_with fail
    refine (value_Equal q x y A B A' B' c e c' e' _ S T (HX.out.keep ((((Ext.refl w).alloc _).alloc _).kept _)) (HY.out.keep ((((Ext.refl w).alloc _).alloc _).kept _))).mono ?_
    rintro e1 w1 ⟨rfl, hx1⟩
    have HX1 := Lib.hid hx1
    clear hx1
    go_wp2
    go_ret
    exact ⟨by rw [HF.out]; rfl, (((Ext.refl w).alloc _).alloc _).trans HX1.out⟩

/-- The kinds of a column's cells that are not empty are one. -/
def kindsFrom (c : Nat) : List (List Val) → Int → Bool
  | [], _ => true
  | r :: rs, kd => if (r.getD c Val.zero).kind = 0 then kindsFrom c rs kd else if kd ≠ 0 ∧ kd ≠ (r.getD c Val.zero).kind then false else kindsFrom c rs (r.getD c Val.zero).kind
def lookR (t : Look) : Bool := nameB t.name && decide (t.cols ≠ []) && tableR t.cols t.rows && (List.range t.cols.length).all (fun c => kindsFrom c t.rows 0)
theorem tableR_row {cols : List ByteArray} {rows : List (List Val)} (h : tableR cols rows = true) {i : Nat} (hi : i < rows.length) : rows[i].length = cols.length := by
  unfold tableR at h
  simp only [Bool.and_eq_true, List.all_eq_true] at h
  have := h.2 rows[i] (List.getElem_mem hi)
  simp [rowOK] at this
  exact this.1

set_option maxRecDepth 100000 in
set_option maxHeartbeats 1000000 in
theorem table_Right (d : Nat) (t : Look) (A B : Option Addr) (c e : Nat) (w : World) (S : Nat → Prop) (h : RL w S d t A B) (hcap : t.cols.length ≤ c) :
    Calls Tryz.prog 16 #[(.agg #[.string t.name, .slice A t.cols.length c, .slice B t.rows.length e])] w (RetB w (lookR t)) := by
  have H := Lib.hid h
  have hns := h.1
  have hcl := h.2.1.2.1
  have hrl := h.2.2.len
  clear h
  go_enter Tryz.func16, Tryz.ntmps16
  go_wp2_with fail
  refine (table_isName t.name hns _).mono ?_
  rintro e1 w1 ⟨rfl, hx1⟩
  obtain ⟨hc1, hf1⟩ := bcell hx1
  have hz1 := hx1.size
  simp at hc1 hf1 hz1
  have hz2 : w.heap.size < w1.heap.size := by omega
  have HX1 := Lib.hid (((Ext.refl w).alloc _).trans hx1)
  cases hnm : nameB t.name
  · have HF := Lib.hid (show lookR t = false by simp [lookR, hnm])
    clear hnm hx1
    go_wp2
    go_ret
    exact ⟨by rw [HF.out]; rfl, HX1.out⟩
  by_cases he : t.cols = []
  · have HF := Lib.hid (show lookR t = false by simp [lookR, he])
    have hl0 : ((t.cols.length : Int) == 0) = true := by simp [he]
    clear hnm hx1 he
    go_wp2
    go_ret
    exact ⟨by rw [HF.out]; rfl, HX1.out⟩
  have hl0 : ((t.cols.length : Int) == 0) = false := by simpa using he
  have HN := Lib.hid hnm
  have HE := Lib.hid he
  clear hnm he hx1
  go_wp2_with fail
  refine (value_Right d (tabV t.cols t.rows) A B c e _ S ((H.out.keep (HX1.out.kept S)).val) hcap).mono ?_
  rintro e1 w2 ⟨rfl, hx2⟩
  rw [rightB_tab]
  obtain ⟨hc2, hf2⟩ := bcell hx2
  have hz3 : w.heap.size < w2.heap.size := by have := hx2.size; omega
  have HX2 := Lib.hid (HX1.out.trans hx2)
  cases htb : tableR t.cols t.rows
  · have HF := Lib.hid (show lookR t = false by simp [lookR, htb])
    clear htb hx2
    go_wp2
    go_ret
    exact ⟨by rw [HF.out]; rfl, HX2.out⟩
  have HTB := Lib.hid htb
  have HR := Lib.hid (H.out.2.2.keep (HX2.out.kept S))
  have g1 : w2.cell? ⟨w.heap.size, 1, none⟩ = some (.slice A t.cols.length c) := by rw [hc2 _ _ hz2, hc1 _ _ (by omega)]; simp [go_sem]
  have g2 : w2.cell? ⟨w.heap.size, 2, none⟩ = some (.slice B t.rows.length e) := by rw [hc2 _ _ hz2, hc1 _ _ (by omega)]; simp [go_sem]
  clear htb hx2 hc1 hc2 hf1 hf2
  go_wp2
  go_loop [27] (fun i => ∃ k : Nat, k ≤ t.cols.length ∧ i = .int .i64 k ∧ ∀ j, j < k → kindsFrom j t.rows 0 = true) (fun i => t.cols.length - (intOf i).toNat)
  case atStart => exact ⟨0, Nat.zero_le _, rfl, by intros; omega⟩
  case round =>
    obtain ⟨k, hk, rfl, hall⟩ := hrel
    have HA := Lib.hid hall
    clear hall
    by_cases hlt : k < t.cols.length
    · go_wp2
      go_loop [33, 4] (fun i v => ∃ (m : Nat) (kd : Int), m ≤ t.rows.length ∧ i = .int .i64 m ∧ v = .int .i64 kd ∧ kindsFrom k (t.rows.drop m) kd = kindsFrom k t.rows 0) (fun i _ => t.rows.length - (intOf i).toNat)
      case atStart => exact ⟨0, 0, Nat.zero_le _, rfl, rfl, rfl⟩
      case round =>
        obtain ⟨m, kd, hm, rfl, rfl, hkf⟩ := hrel
        have HKF := Lib.hid hkf
        clear hkf
        by_cases hlt2 : m < t.rows.length
        · obtain ⟨b1, o1, A2, c2, rfl, z1, p0, hcr, hrow⟩ := HR.out.at_ hlt2
          have hll := tableR_row HTB.out hlt2
          have hkr : k < t.rows[m].length := by omega
          obtain ⟨b2, o2, A5, c5, B5, e5, rfl, z2, ⟨q0, q1, q2, q3, q4, q5, q6⟩, _, hv⟩ := hrow.at_ hkr
          have hrl2 := hrow.len
          have hdr : t.rows.drop m = t.rows[m] :: t.rows.drop (m + 1) := List.drop_eq_getElem_cons hlt2
          have hgd : (t.rows[m].getD k Val.zero) = t.rows[m][k] := getD_of _ _ _ hkr
          by_cases hk0 : t.rows[m][k].kind = 0
          · have HK := Lib.hid (show kindsFrom k (t.rows.drop (m + 1)) kd = kindsFrom k t.rows 0 by rw [← HKF.out, hdr, kindsFrom, hgd, if_pos hk0])
            have hk0' : (t.rows[m][k].kind == 0) = true := by simp [hk0]
            clear hk0 hdr hgd hrow hv hll
            go_wp2
            go_round
            case rel => exact ⟨m + 1, kd, by omega, by go_num, rfl, HK.out⟩
            case measure => simp [intOf]; omega
          · have hk0' : (t.rows[m][k].kind == 0) = false := by simp [hk0]
            by_cases hd0 : kd = 0
            · have hd0' : (kd != 0) = false := by simp [hd0]
              have HK := Lib.hid (show kindsFrom k (t.rows.drop (m + 1)) t.rows[m][k].kind = kindsFrom k t.rows 0 by rw [← HKF.out, hdr, kindsFrom, hgd, if_neg hk0, if_neg (by omega)])
              clear hk0 hdr hgd hrow hv hll hd0
              go_wp2
              go_round
              case rel => exact ⟨m + 1, _, by omega, by go_num, rfl, HK.out⟩
              case measure => simp [intOf]; omega
            · have hd0' : (kd != 0) = true := by simp [hd0]
              by_cases hdk : kd = t.rows[m][k].kind
              · have hdk' : (kd != t.rows[m][k].kind) = false := by simp [hdk]
                have HK := Lib.hid (show kindsFrom k (t.rows.drop (m + 1)) t.rows[m][k].kind = kindsFrom k t.rows 0 by rw [← HKF.out, hdr, kindsFrom, hgd, if_neg hk0, if_neg (by omega)])
                clear hk0 hdr hgd hrow hv hll hd0 hdk
                go_wp2
                go_round
                case rel => exact ⟨m + 1, _, by omega, by go_num, rfl, HK.out⟩
                case measure => simp [intOf]; omega
              · have hdk' : (kd != t.rows[m][k].kind) = true := by rw [bne_iff_ne]; exact hdk
                have HF := Lib.hid (show lookR t = false by
                  have : kindsFrom k t.rows 0 = false := by rw [← HKF.out, hdr, kindsFrom, hgd, if_neg hk0, if_pos ⟨hd0, hdk⟩]
                  unfold lookR
                  rw [range_not hlt this]
                  simp)
                clear hk0 hdr hgd hrow hv hll hd0 hdk
                go_wp2
                go_ret
                exact ⟨by rw [HF.out]; rfl, HX2.out⟩
        · have HK := Lib.hid (show kindsFrom k t.rows 0 = true by rw [← HKF.out, List.drop_eq_nil_of_le (by omega)]; rfl)
          go_wp2
          go_round
          case rel =>
            refine ⟨k + 1, by omega, by go_num, fun j hj => ?_⟩
            by_cases hjk : j = k
            · subst hjk; exact HK.out
            · exact HA.out j (by omega)
          case measure => simp [intOf]; omega
    · have HF := Lib.hid (show lookR t = true by
        unfold lookR
        rw [HN.out, HTB.out, range_all (fun j hj => HA.out j (by omega))]
        simp [HE.out])
      go_wp2
      go_ret
      exact ⟨by rw [HF.out]; rfl, HX2.out⟩
end Go.Proofs.YtcmmkeiiapbgcaaGreatDoor
/- The program's table.isTable and table.Find. No conditions but that the arguments read as data. -/
namespace Go.Proofs.YtcmmkeiiapbgcaaGreatDoor
open Go Go.RowKit

theorem quietI {P : Program} {f : FuncId} {args : Array Value} {w : World} {n : Nat} {v : Int} (h : Calls P f args (w.drewN n) (SameI (w.drewN n) v)) :
    Calls P f args (w.drewN n) fun e w'' => e = .returned (.int .i64 v) ∧ ∃ m, w'' = w.drewN m := h.mono fun _ _ ⟨he, hm⟩ => ⟨he, n, hm.symm⟩

set_option maxRecDepth 100000 in
set_option maxHeartbeats 400000 in
theorem table_isTable (q : Nat) (x : Val) (A B : Option Addr) (c e : Nat) (w : World) (S : Nat → Prop) (h : RV w S q x A B) (hcap : x.cols.length ≤ c) :
    Calls Tryz.prog 56 #[(.agg #[.int .i64 x.kind, .string x.s, .int .i64 x.dn, .int .i64 x.ds, .int .i64 x.n, .slice A x.cols.length c, .slice B x.rows.length e])] w (RetB w (decide (x.kind = 5) && rightB x)) := by
  have H := Lib.hid h
  clear h
  by_cases hk : x.kind = 5
  · have k0 : (x.kind == 5) = true := by simp [hk]
    have HF := Lib.hid (show (decide (x.kind = 5) && rightB x) = rightB x by simp [hk])
    clear hk
    go_enter Tryz.func56, Tryz.ntmps56
    go_wp2_with fail
    refine (value_Right q x A B c e _ S (H.out.keep (((Ext.refl w).alloc _).kept _)) hcap).mono ?_
    rintro e1 w1 ⟨rfl, hx1⟩
    have HX1 := Lib.hid hx1
    clear hx1
    go_wp2
    go_ret
    exact ⟨by rw [HF.out]; rfl, ((Ext.refl w).alloc _).trans HX1.out⟩
  · have k0 : (x.kind == 5) = false := by simp [hk]
    have HF := Lib.hid (show (decide (x.kind = 5) && rightB x) = false by simp [hk])
    clear hk
    go_enter Tryz.func56, Tryz.ntmps56
    go_wp2
    go_ret
    exact ⟨by rw [HF.out]; rfl, (Ext.refl w).alloc _⟩

def findRows (k c : Nat) (v : Val) : List (List Val) → Val × Int
  | [] => (Val.zero, 18)
  | r :: rs => if isB (r.getD k Val.zero) v = true then (if (r.getD c Val.zero).kind = 0 then (Val.zero, 18) else (r.getD c Val.zero, 0)) else findRows k c v rs
def findS (t : Look) (key : ByteArray) (v : Val) (col : ByteArray) : Val × Int :=
  if lookR t = false then (Val.zero, 1)
  else if idxS t.cols key < 0 ∨ idxS t.cols col < 0 then (Val.zero, 13)
  else findRows (idxS t.cols key).toNat (idxS t.cols col).toNat v t.rows
/-- What a call that answers a value and an error number, the value in new memory, leaves. -/
def RetVE (w : World) (S : Nat → Prop) (d : Nat) (r : Val × Int) (e : Ending) (w' : World) : Prop :=
  ∃ A c B e', e = .returned (.tuple #[(.agg #[.int .i64 r.1.kind, .string r.1.s, .int .i64 r.1.dn, .int .i64 r.1.ds, .int .i64 r.1.n, .slice A r.1.cols.length c, .slice B r.1.rows.length e']), .int .i64 r.2]) ∧ (r.1.cols.length ≤ c ∧ r.1.rows.length ≤ e') ∧ RV w' S d r.1 A B ∧ Ext w w'
theorem lookR_tab {t : Look} (h : lookR t = true) : tableR t.cols t.rows = true := by
  simp only [lookR, Bool.and_eq_true] at h
  exact h.1.2

set_option maxRecDepth 100000 in
set_option maxHeartbeats 1000000 in
theorem table_Find (d : Nat) (t : Look) (key : ByteArray) (v : Val) (col : ByteArray) (A B Av Bv : Option Addr) (c e cv ev : Nat) (w : World) (S T : Nat → Prop) (h : RL w S d t A B) (hcap : t.cols.length ≤ c) (hv : RV w T d v Av Bv) :
    Calls Tryz.prog 12 #[(.agg #[.string t.name, .slice A t.cols.length c, .slice B t.rows.length e]), .string key, (.agg #[.int .i64 v.kind, .string v.s, .int .i64 v.dn, .int .i64 v.ds, .int .i64 v.n, .slice Av v.cols.length cv, .slice Bv v.rows.length ev]), .string col] w (RetVE w (Fresh w) d (findS t key v col)) := by
  have H := Lib.hid h
  have HV := Lib.hid hv
  have hcl := h.2.1.2.1
  have hrl := h.2.2.len
  clear h hv
  go_enter Tryz.func12, Tryz.ntmps12
  go_wp2_with fail
  refine (table_Right d t A B c e _ S (H.out.keep (((((Ext.refl w).alloc _).alloc _).alloc _).kept _)) hcap).mono ?_
  rintro e1 w1 ⟨rfl, hx1⟩
  have HX1 := Lib.hid ((((Ext.refl w).alloc _).alloc _).alloc _ |>.trans hx1)
  have hz0 := hx1.size
  simp at hz0
  have hz1 : w.heap.size < w1.heap.size := by omega
  have hz2 : w.heap.size + 1 < w1.heap.size := by omega
  have hz3 : w.heap.size + 1 + 1 < w1.heap.size := by omega
  obtain ⟨hc1, hf1⟩ := bcell hx1
  simp at hc1 hf1
  cases hR : lookR t
  · have HF := Lib.hid (show findS t key v col = (Val.zero, 1) by simp [findS, hR])
    clear hR hx1
    go_wp2
    rw [HF.out]
    refine bodyPost_ret (v := .tuple #[(.agg #[.int .i64 Val.zero.kind, .string Val.zero.s, .int .i64 Val.zero.dn, .int .i64 Val.zero.ds, .int .i64 Val.zero.n, .slice none Val.zero.cols.length 0, .slice none Val.zero.rows.length 0]), .int .i64 1]) (by simp [results, Tryz.results12, go_sem, hc1, Val.zero]) rfl ⟨none, 0, none, 0, rfl, ⟨Nat.le_refl _, Nat.le_refl _⟩, RV.zero, ?_⟩
    iterate 7 with_reducible refine Ext.set2 ?_ (by omega) _
    with_reducible exact HX1.out
  have HR := Lib.hid hR
  have g1 : w1.cell? ⟨w.heap.size, 1, none⟩ = some (.slice A t.cols.length c) := by rw [hc1 _ _ (by omega)]; simp [go_sem]
  have g2 : w1.cell? ⟨w.heap.size, 2, none⟩ = some (.slice B t.rows.length e) := by rw [hc1 _ _ (by omega)]; simp [go_sem]
  have bV : Blk w1 (w.heap.size + 1) 33 #[.int .i64 v.kind, .string v.s, .int .i64 v.dn, .int .i64 v.ds, .int .i64 v.n, .slice Av v.cols.length cv, .slice Bv v.rows.length ev] := by
    have := ((Blk.new (w.alloc (.cells #[.string t.name, .slice A t.cols.length c, .slice B t.rows.length e] 28)) 33 #[.int .i64 v.kind, .string v.s, .int .i64 v.dn, .int .i64 v.ds, .int .i64 v.n, .slice Av v.cols.length cv, .slice Bv v.rows.length ev]).keep (Kept.alloc _ _ _)).keep (hx1.kept _)
    simpa using this
  have bR : Blk w1 (w.heap.size + 1 + 1) 33 #[.int .i64 Val.zero.kind, .string Val.zero.s, .int .i64 Val.zero.dn, .int .i64 Val.zero.ds, .int .i64 Val.zero.n, .slice none Val.zero.cols.length 0, .slice none Val.zero.rows.length 0] := by
    have := (Blk.new ((w.alloc (.cells #[.string t.name, .slice A t.cols.length c, .slice B t.rows.length e] 28)).alloc (.cells #[.int .i64 v.kind, .string v.s, .int .i64 v.dn, .int .i64 v.ds, .int .i64 v.n, .slice Av v.cols.length cv, .slice Bv v.rows.length ev] 33)) 33 #[.int .i64 Val.zero.kind, .string Val.zero.s, .int .i64 Val.zero.dn, .int .i64 Val.zero.ds, .int .i64 Val.zero.n, .slice none Val.zero.cols.length 0, .slice none Val.zero.rows.length 0]).keep (hx1.kept _)
    simpa using this
  have HBV := Lib.hid bV
  have HBR := Lib.hid bR
  have HL := Lib.hid (H.out.keep (HX1.out.kept S))
  clear hx1 hc1 hf1 bV bR hR
  go_wp2
  go_quiet ((go_at_call 45; exact quietI (slices_Index _ _ _ _ _ S (HL.out.2.1.keep (Kept.drewN _ _ _)))))
  rename_i nq
  have HX2 := Lib.hid (HX1.out.drewN nq)
  have HBV2 := Lib.hid (HBV.out.keep (Kept.drewN _ _ nq))
  have HBR2 := Lib.hid (HBR.out.keep (Kept.drewN _ _ nq))
  have HL2 := Lib.hid (HL.out.keep (Kept.drewN _ _ nq))
  have HE0 := Lib.hid (show (w1.drewN nq).heap.size = w1.heap.size from rfl)
  have g3 : (w1.drewN nq).cell? ⟨w.heap.size, 2, none⟩ = some (.slice B t.rows.length e) := g2
  clear g1 g2
  generalize w1.drewN nq = w2 at *
  have hz4 : w.heap.size + 1 + 1 < w2.heap.size := by rw [HE0.out]; exact hz3
  by_cases hk : 0 ≤ idxS t.cols key
  case neg =>
    have HF := Lib.hid (show findS t key v col = (Val.zero, 13) by
      unfold findS
      rw [HR.out, if_neg (by simp), if_pos (Or.inl (by omega))])
    have r0 := HBR2.out.cell (i := 0) rfl
    have r1 := HBR2.out.cell (i := 1) rfl
    have r2 := HBR2.out.cell (i := 2) rfl
    have r3 := HBR2.out.cell (i := 3) rfl
    have r4 := HBR2.out.cell (i := 4) rfl
    have r5 := HBR2.out.cell (i := 5) rfl
    have r6 := HBR2.out.cell (i := 6) rfl
    have rf := HBR2.out.frozen
    go_wp2
    rw [HF.out]
    refine bodyPost_ret (v := .tuple #[(.agg #[.int .i64 Val.zero.kind, .string Val.zero.s, .int .i64 Val.zero.dn, .int .i64 Val.zero.ds, .int .i64 Val.zero.n, .slice none Val.zero.cols.length 0, .slice none Val.zero.rows.length 0]), .int .i64 13]) (by simp [results, Tryz.results12, go_sem, r0, r1, r2, r3, r4, r5, r6, Val.zero]) rfl ⟨none, 0, none, 0, rfl, ⟨Nat.le_refl _, Nat.le_refl _⟩, RV.zero, ?_⟩
    iterate 7 with_reducible refine Ext.set2 ?_ (by omega) _
    with_reducible exact HX2.out
  by_cases hc : 0 ≤ idxS t.cols col
  case neg =>
    have HF := Lib.hid (show findS t key v col = (Val.zero, 13) by
      unfold findS
      rw [HR.out, if_neg (by simp), if_pos (Or.inr (by omega))])
    have r0 := HBR2.out.cell (i := 0) rfl
    have r1 := HBR2.out.cell (i := 1) rfl
    have r2 := HBR2.out.cell (i := 2) rfl
    have r3 := HBR2.out.cell (i := 3) rfl
    have r4 := HBR2.out.cell (i := 4) rfl
    have r5 := HBR2.out.cell (i := 5) rfl
    have r6 := HBR2.out.cell (i := 6) rfl
    have rf := HBR2.out.frozen
    go_wp2
    rw [HF.out]
    refine bodyPost_ret (v := .tuple #[(.agg #[.int .i64 Val.zero.kind, .string Val.zero.s, .int .i64 Val.zero.dn, .int .i64 Val.zero.ds, .int .i64 Val.zero.n, .slice none Val.zero.cols.length 0, .slice none Val.zero.rows.length 0]), .int .i64 13]) (by simp [results, Tryz.results12, go_sem, r0, r1, r2, r3, r4, r5, r6, Val.zero]) rfl ⟨none, 0, none, 0, rfl, ⟨Nat.le_refl _, Nat.le_refl _⟩, RV.zero, ?_⟩
    iterate 7 with_reducible refine Ext.set2 ?_ (by omega) _
    with_reducible exact HX2.out
  obtain ⟨k, hk1, hk2, -⟩ := idxS_at hk
  obtain ⟨cc, hc1, hc2, -⟩ := idxS_at hc
  have HF := Lib.hid (show findS t key v col = findRows k cc v t.rows by
    unfold findS
    rw [HR.out, if_neg (by simp), if_neg (by omega), hk1, hc1]
    simp)
  rw [hk1, hc1, HF.out]
  clear hk hc hk1 hc1
  go_wp2
  have HTB := Lib.hid (lookR_tab HR.out)
  go_loopw [36] (fun i wr => ∃ m : Nat, m ≤ t.rows.length ∧ i = .int .i64 m ∧ Ext w2 wr ∧ findRows k cc v (t.rows.drop m) = findRows k cc v t.rows) (fun i _ => t.rows.length - (intOf i).toNat)
  case atStart => exact ⟨0, Nat.zero_le _, rfl, Ext.refl _, rfl⟩
  case round =>
    obtain ⟨m, hm, rfl, hext, hfr⟩ := hrel
    have HFR := Lib.hid hfr
    have HE := Lib.hid hext
    clear hfr g3
    by_cases hlt : m < t.rows.length
    · obtain ⟨b1, o1, A2, c2, rfl, z1, p0, hcr, hrow⟩ := (HL2.out.2.2.keep (hext.kept S)).at_ hlt
      have hll := tableR_row HTB.out hlt
      have hkr : k < t.rows[m].length := by omega
      have hcr2 : cc < t.rows[m].length := by omega
      obtain ⟨b2, o2, A5, c5, B5, e5, rfl, z2, ⟨q0, q1, q2, q3, q4, q5, q6⟩, ⟨hd, _, _⟩, hv5⟩ := hrow.at_ hkr
      have hrl2 := hrow.len
      have hdr : t.rows.drop m = t.rows[m] :: t.rows.drop (m + 1) := List.drop_eq_getElem_cons hlt
      have hgd : (t.rows[m].getD k Val.zero) = t.rows[m][k] := getD_of _ _ _ hkr
      have hgc : (t.rows[m].getD cc Val.zero) = t.rows[m][cc] := getD_of _ _ _ hcr2
      have HV5 := Lib.hid hv5
      have HROW := Lib.hid hrow
      have hbv := HBV2.out.keep (hext.kept _)
      have v0 := hbv.cell (i := 0) rfl
      have v1 := hbv.cell (i := 1) rfl
      have v2 := hbv.cell (i := 2) rfl
      have v3 := hbv.cell (i := 3) rfl
      have v4 := hbv.cell (i := 4) rfl
      have v5 := hbv.cell (i := 5) rfl
      have v6 := hbv.cell (i := 6) rfl
      have HDR := Lib.hid hdr
      have HGD := Lib.hid hgd
      have HGC := Lib.hid hgc
      clear hbv hdr hgd hgc hrow hv5 hext hll
      go_wp2
      go_still_tail 5, (by kernel_rfl)
      go_wp2_with fail
      refine (table_is d t.rows[m][k] v A5 B5 Av Bv c5 e5 cv ev _ S T ((HV5.out.up (by omega)).keep (Kept.drew _ _)) ((HV.out.keep ((HX2.out.trans HE.out).kept T)).keep (Kept.drew _ _))).mono ?_
      rintro e1 w3 ⟨rfl, hx3⟩
      have HX3 := Lib.hid (HE.out.drew.trans hx3)
      have HX3' := Lib.hid (((Ext.refl wr).drew).trans hx3)
      clear hx3 v0 v1 v2 v3 v4 v5 v6
      cases his : isB t.rows[m][k] v
      · have HK := Lib.hid (show findRows k cc v (t.rows.drop (m + 1)) = findRows k cc v t.rows by rw [← HFR.out, HDR.out, findRows, HGD.out, his]; simp)
        clear his
        go_wp2
        go_roundw
        case rel => exact ⟨m + 1, by omega, by go_num, HX3.out, HK.out⟩
        case measure => simp [intOf]; omega
      · obtain ⟨b3, o3, A6, c6, B6, e6, hb3, z3, ⟨q0', q1', q2', q3', q4', q5', q6'⟩, ⟨hd', _, _⟩, hv6⟩ := (HROW.out.keep (HX3'.out.kept S)).at_ hcr2
        injection hb3 with hb3
        injection hb3 with hb3 hb4
        subst hb3
        subst hb4
        have HV6 := Lib.hid hv6
        clear hv6
        have hbr := HBR2.out.keep (HX3.out.kept _)
        have r0 := hbr.cell (i := 0) rfl
        have r1 := hbr.cell (i := 1) rfl
        have r2 := hbr.cell (i := 2) rfl
        have r3 := hbr.cell (i := 3) rfl
        have r4 := hbr.cell (i := 4) rfl
        have r5 := hbr.cell (i := 5) rfl
        have r6 := hbr.cell (i := 6) rfl
        have rf := hbr.frozen
        have hz5 := hbr.lt
        have HBR3 := Lib.hid hbr
        clear hbr
        by_cases hk0 : t.rows[m][cc].kind = 0
        · have hk0' : (t.rows[m][cc].kind == 0) = true := by simp [hk0]
          have HK := Lib.hid (show findRows k cc v t.rows = (Val.zero, 18) by rw [← HFR.out, HDR.out, findRows, HGD.out, HGC.out, his, if_pos rfl, if_pos hk0])
          clear his hk0
          go_wp2
          rw [HF.out, HK.out]
          refine bodyPost_ret (v := .tuple #[(.agg #[.int .i64 Val.zero.kind, .string Val.zero.s, .int .i64 Val.zero.dn, .int .i64 Val.zero.ds, .int .i64 Val.zero.n, .slice none Val.zero.cols.length 0, .slice none Val.zero.rows.length 0]), .int .i64 18]) (by simp [results, Tryz.results12, go_sem, r0, r1, r2, r3, r4, r5, r6, Val.zero]) rfl ⟨none, 0, none, 0, rfl, ⟨Nat.le_refl _, Nat.le_refl _⟩, RV.zero, ?_⟩
          iterate 7 with_reducible refine Ext.set2 ?_ (by omega) _
          exact HX2.out.trans HX3.out
        · have hk0' : (t.rows[m][cc].kind == 0) = false := by simp [hk0]
          have HK := Lib.hid (show findRows k cc v t.rows = (t.rows[m][cc], 0) by rw [← HFR.out, HDR.out, findRows, HGD.out, HGC.out, his, if_pos rfl, if_neg hk0])
          clear his hk0
          go_wp2_with fail
          refine (value_Copy d t.rows[m][cc] A6 B6 c6 e6 _ S (HV6.out.up (by omega))).mono ?_
          rintro e1 w4 ⟨A7, c7, B7, e7, rfl, hcp7, hv7, hx4⟩
          have HX4 := Lib.hid hx4
          have HV7 := Lib.hid hv7
          clear r0 r1 r2 r3 r4 r5 r6 rf hz5 hv7
          have hbr := HBR3.out.keep (hx4.kept _)
          have r0 := hbr.cell (i := 0) rfl
          have r1 := hbr.cell (i := 1) rfl
          have r2 := hbr.cell (i := 2) rfl
          have r3 := hbr.cell (i := 3) rfl
          have r4 := hbr.cell (i := 4) rfl
          have r5 := hbr.cell (i := 5) rfl
          have r6 := hbr.cell (i := 6) rfl
          have rf := hbr.frozen
          have hz5 := hbr.lt
          have HBL := Lib.hid HBR3.out.lt
          clear hbr hx4
          go_wp2
          rw [HF.out, HK.out]
          refine bodyPost_ret (v := .tuple #[(.agg #[.int .i64 t.rows[m][cc].kind, .string t.rows[m][cc].s, .int .i64 t.rows[m][cc].dn, .int .i64 t.rows[m][cc].ds, .int .i64 t.rows[m][cc].n, .slice A7 t.rows[m][cc].cols.length c7, .slice B7 t.rows[m][cc].rows.length e7]), .int .i64 0]) (by simp [results, Tryz.results12, go_sem, r0, r1, r2, r3, r4, r5, r6]) rfl ⟨A7, c7, B7, e7, rfl, hcp7, (HV7.out.move (T := Fresh w) (S := Fresh w3) ?_ ?_), ?_⟩
          · iterate 7 with_reducible refine Kept.set2 ?_ (by have := HBL.out; unfold Fresh; omega)
            with_reducible exact Kept.refl _ _
          · intro i _ hi
            have := (HX2.out.trans HX3.out).size
            unfold Fresh at hi ⊢
            omega
          · iterate 7 with_reducible refine Ext.set2 ?_ (by omega) _
            exact HX2.out.trans (HX3.out.trans HX4.out)
    · have HK := Lib.hid (show findRows k cc v t.rows = (Val.zero, 18) by rw [← HFR.out, List.drop_eq_nil_of_le (by omega)]; rfl)
      have hbr := HBR2.out.keep (hext.kept _)
      have r0 := hbr.cell (i := 0) rfl
      have r1 := hbr.cell (i := 1) rfl
      have r2 := hbr.cell (i := 2) rfl
      have r3 := hbr.cell (i := 3) rfl
      have r4 := hbr.cell (i := 4) rfl
      have r5 := hbr.cell (i := 5) rfl
      have r6 := hbr.cell (i := 6) rfl
      have rf := hbr.frozen
      have hz5 := hbr.lt
      clear hbr hext
      go_wp2
      rw [HF.out, HK.out]
      refine bodyPost_ret (v := .tuple #[(.agg #[.int .i64 Val.zero.kind, .string Val.zero.s, .int .i64 Val.zero.dn, .int .i64 Val.zero.ds, .int .i64 Val.zero.n, .slice none Val.zero.cols.length 0, .slice none Val.zero.rows.length 0]), .int .i64 18]) (by simp [results, Tryz.results12, go_sem, r0, r1, r2, r3, r4, r5, r6, Val.zero]) rfl ⟨none, 0, none, 0, rfl, ⟨Nat.le_refl _, Nat.le_refl _⟩, RV.zero, ?_⟩
      iterate 7 with_reducible refine Ext.set2 ?_ (by omega) _
      exact HX2.out.trans HE.out
end Go.Proofs.YtcmmkeiiapbgcaaGreatDoor
