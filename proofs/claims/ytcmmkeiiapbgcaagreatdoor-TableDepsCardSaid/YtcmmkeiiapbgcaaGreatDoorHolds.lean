/- The program's table.regular and table.classes. Conditions: the arguments read as data; for classes, each row has the column. -/
import Derived.Test.YtcmmkeiiapbgcaaGreatDoorTab2
namespace Go.Proofs.YtcmmkeiiapbgcaaGreatDoor
open Go Go.RowKit

def regB (cols : List ByteArray) (rows : List (List Val)) : Bool := rows.all fun r => decide (r.length = cols.length)
set_option maxRecDepth 100000 in
set_option maxHeartbeats 400000 in
theorem table_regular (q : Nat) (cols : List ByteArray) (rows : List (List Val)) (A B : Option Addr) (c e : Nat) (w : World) (S : Nat → Prop) (hcl : cols.length ≤ 4294967296) (hB : Rows w S q B rows) :
    Calls Tryz.prog 62 #[.slice A cols.length c, .slice B rows.length e] w (SameB w (regB cols rows)) := by
  have hm := hB.len
  go_enter Tryz.func62, Tryz.ntmps62
  go_wp2
  go_loop [9] (fun i => ∃ k : Nat, k ≤ rows.length ∧ i = .int .i64 k ∧ ∀ j (h : j < rows.length), j < k → rows[j].length = cols.length) (fun i => rows.length - (intOf i).toNat)
  case atStart => exact ⟨0, Nat.zero_le _, rfl, by intros; omega⟩
  case round =>
    obtain ⟨k, hk, rfl, hall⟩ := hrel
    have HA := Lib.hid hall
    clear hall
    by_cases hlt : k < rows.length
    · obtain ⟨b1, o1, A2, c2, rfl, z1, p0, hcr, hrow⟩ := hB.at_ hlt
      have hrl := hrow.len
      clear hrow
      by_cases hln : rows[k].length = cols.length
      · have hn1 : ((rows[k].length : Int) != (cols.length : Int)) = false := by simp [hln]
        have HLN := Lib.hid hln
        clear hln
        go_wp2
        go_round
        case rel =>
          refine ⟨k + 1, by omega, by go_num, fun j h hj => ?_⟩
          by_cases hjk : j = k
          · subst hjk; exact HLN.out
          · exact HA.out j h (by omega)
        case measure => simp [intOf]; omega
      · have hn1 : ((rows[k].length : Int) != (cols.length : Int)) = true := by rw [bne_iff_ne]; omega
        have HF := Lib.hid (show regB cols rows = false by unfold regB; exact all_not rows _ k hlt (by simp [hln]))
        clear hln
        go_wp2
        go_ret
        exact ⟨by rw [HF.out]; rfl, rfl⟩
    · have HF := Lib.hid (show regB cols rows = true by unfold regB; exact all_take rows _ (fun j h => by simp [HA.out j h (by omega)]))
      go_wp2
      go_ret
      exact ⟨by rw [HF.out]; rfl, rfl⟩

set_option maxRecDepth 100000 in
set_option maxHeartbeats 400000 in
theorem table_classes1 (q : Nat) (x y : List Val) (A B : Option Addr) (ca cb k g1 g2 : Nat) (w : World) (S T : Nat → Prop) (hx : Row w S q A x) (hy : Row w T q B y) (hkx : k < x.length) (hky : k < y.length)
    (h1 : w.cell? ⟨g1, 0, none⟩ = some (.int .i64 (k : Int))) (h2 : w.cell? ⟨g2, 0, none⟩ = some (.slice B y.length cb)) :
    Calls Tryz.prog 106 #[.slice A x.length ca, .pointer (some ⟨g1, 0, none⟩), .pointer (some ⟨g2, 0, none⟩)] w (RetB w (decide (x.getD k Val.zero = y.getD k Val.zero))) := by
  have hxl := hx.len
  have hyl := hy.len
  obtain ⟨b1, o1, A1, c1, B1, e1, rfl, z1, ⟨p0, p1, p2, p3, p4, p5, p6⟩, ⟨hq, _, _⟩, hv1⟩ := hx.at_ hkx
  obtain ⟨b2, o2, A2, c2, B2, e2, rfl, z2, ⟨q0, q1, q2, q3, q4, q5, q6⟩, _, hv2⟩ := hy.at_ hky
  have HV1 := Lib.hid hv1
  have HV2 := Lib.hid hv2
  have G1 := Lib.hid (getD_of x k Val.zero hkx)
  have G2 := Lib.hid (getD_of y k Val.zero hky)
  clear hv1 hv2 hx hy
  go_enter Tryz.func106, Tryz.ntmps106
  go_wp2
  go_still_tail 8, (by kernel_rfl)
  go_wp2_with fail
  refine (value_Equal (q - 1) x[k] y[k] A1 B1 A2 B2 c1 e1 c2 e2 _ S T (HV1.out.keep (Kept.drew _ _)) (HV2.out.keep (Kept.drew _ _))).mono ?_
  rintro e w1 ⟨rfl, hx1⟩
  have HX := Lib.hid (((Ext.refl w).drew).trans hx1)
  clear hx1
  go_wp2
  go_ret
  exact ⟨by rw [G1.out, G2.out]; rfl, HX.out⟩

/-- The place of the first element that p takes; -1, if there is none. -/
def idxF {α : Type} (p : α → Bool) (l : List α) : Int := match l.findIdx? p with | some i => (i : Int) | none => -1
theorem idxF_found {α : Type} {p : α → Bool} {l : List α} {k : Nat} (hk : k < l.length) (h : ∀ j (hj : j < l.length), j < k → p l[j] = false) (hv : p l[k] = true) : idxF p l = k := by
  unfold idxF
  have : l.findIdx? p = some k := by
    rw [List.findIdx?_eq_some_iff_getElem]
    exact ⟨hk, hv, fun j hj => by simp [h j (by omega) hj]⟩
  rw [this]
theorem idxF_none {α : Type} {p : α → Bool} {l : List α} (h : ∀ j (hj : j < l.length), p l[j] = false) : idxF p l = -1 := by
  unfold idxF
  have : l.findIdx? p = none := by
    rw [List.findIdx?_eq_none_iff]
    intro x hx
    obtain ⟨i, hi, rfl⟩ := List.mem_iff_getElem.1 hx
    exact h i hi
  rw [this]
theorem idxF_some {α : Type} {p : α → Bool} {l : List α} (h : 0 ≤ idxF p l) : ∃ k : Nat, idxF p l = k ∧ ∃ hk : k < l.length, p l[k] = true ∧ ∀ j (hj : j < l.length), j < k → p l[j] = false := by
  unfold idxF at h ⊢
  cases hf : l.findIdx? p with
  | none => rw [hf] at h; simp at h
  | some i =>
    rw [List.findIdx?_eq_some_iff_getElem] at hf
    obtain ⟨hi, h1, h2⟩ := hf
    exact ⟨i, rfl, hi, h1, fun j hj hji => by simpa using h2 j hji⟩
theorem idxF_any {α : Type} (p : α → Bool) (l : List α) : decide (0 ≤ idxF p l) = l.any p := by
  rw [Bool.eq_iff_iff, decide_eq_true_iff, List.any_eq_true]
  constructor
  · intro h
    obtain ⟨k, _, hk, hp, _⟩ := idxF_some h
    exact ⟨_, List.getElem_mem hk, hp⟩
  · rintro ⟨x, hx, hp⟩
    unfold idxF
    cases hf : l.findIdx? p with
    | some i => simp
    | none =>
      rw [List.findIdx?_eq_none_iff] at hf
      rw [hf x hx] at hp
      cases hp
def eqAt (c : Nat) (r o : List Val) : Bool := decide (o.getD c Val.zero = r.getD c Val.zero)

set_option maxRecDepth 100000 in
set_option maxHeartbeats 400000 in
theorem table_IndexFunc (q : Nat) (rows : List (List Val)) (r : List Val) (A B : Option Addr) (ca cb k g1 g2 : Nat) (w : World) (S T : Nat → Prop) (hx : Rows w S q A rows) (hy : Row w T q B r) (hk : ∀ j (h : j < rows.length), k < rows[j].length) (hky : k < r.length)
    (h1 : w.cell? ⟨g1, 0, none⟩ = some (.int .i64 (k : Int))) (h2 : w.cell? ⟨g2, 0, none⟩ = some (.slice B r.length cb)) :
    Calls Tryz.prog 105 #[.slice A rows.length ca, .func (.func 106) #[] #[.pointer (some ⟨g1, 0, none⟩), .pointer (some ⟨g2, 0, none⟩)]] w (RetI w (idxF (eqAt k r) rows)) := by
  have hxl := hx.len
  have HX := Lib.hid hx
  have HY := Lib.hid hy
  have HK := Lib.hid hk
  have H1 := Lib.hid h1
  have H2 := Lib.hid h2
  clear hx hy hk h1 h2
  go_enter Tryz.func105, Tryz.ntmps105
  go_wp2
  go_loopw [8] (fun i wr => ∃ m : Nat, m ≤ rows.length ∧ i = .int .i64 m ∧ Ext w wr ∧ ∀ j (h : j < rows.length), j < m → eqAt k r rows[j] = false) (fun i _ => rows.length - (intOf i).toNat)
  case atStart => exact ⟨0, Nat.zero_le _, rfl, Ext.refl _, by intros; omega⟩
  case round =>
    obtain ⟨m, hm, rfl, hext, hall⟩ := hrel
    have HA := Lib.hid hall
    have HE := Lib.hid hext
    clear hall
    by_cases hlt : m < rows.length
    · obtain ⟨b1, o1, A2, c2, rfl, z1, p0, hcr, hrow⟩ := (HX.out.keep (hext.kept S)).at_ hlt
      have HROW := Lib.hid hrow
      clear hrow hext
      go_wp2_with fail
      refine (table_classes1 q rows[m] r A2 B c2 cb k g1 g2 _ S T HROW.out (HY.out.keep (HE.out.kept T)) (HK.out m hlt) hky (HE.out.cell H1.out) (HE.out.cell H2.out)).mono ?_
      rintro e w1 ⟨rfl, hx1⟩
      have HX1 := Lib.hid (HE.out.trans hx1)
      clear hx1
      have heq : decide (rows[m].getD k Val.zero = r.getD k Val.zero) = eqAt k r rows[m] := rfl
      rw [heq]
      clear heq
      cases hq : eqAt k r rows[m]
      · have HQ := Lib.hid hq
        clear hq
        go_wp2
        go_roundw
        case rel =>
          refine ⟨m + 1, by omega, by go_num, HX1.out, fun j h hj => ?_⟩
          by_cases hjk : j = m
          · subst hjk; exact HQ.out
          · exact HA.out j h (by omega)
        case measure => simp [intOf]; omega
      · have HF := Lib.hid (idxF_found hlt HA.out hq)
        clear hq
        go_wp2
        go_ret
        exact ⟨by rw [HF.out]; rfl, HX1.out⟩
    · have HF := Lib.hid (idxF_none (p := eqAt k r) (l := rows) (fun j h => HA.out j h (by omega)))
      clear hext
      go_wp2
      go_ret
      exact ⟨by rw [HF.out]; rfl, HE.out⟩

def classesS (rows : List (List Val)) (c : Nat) : List Int := rows.map fun r => idxF (eqAt c r) rows
def RetIs (w : World) (l : List Int) (e : Ending) (w' : World) : Prop := ∃ A c, e = .returned (.slice A l.length c) ∧ l.length ≤ c ∧ Ints w' (Fresh w) A l ∧ Ext w w'

set_option maxRecDepth 100000 in
set_option maxHeartbeats 400000 in
theorem table_classes (q : Nat) (rows : List (List Val)) (A : Option Addr) (ca k : Nat) (w : World) (S : Nat → Prop) (hx : Rows w S q A rows) (hk : ∀ j (h : j < rows.length), k < rows[j].length) :
    Calls Tryz.prog 63 #[.slice A rows.length ca, .int .i64 (k : Int)] w (RetIs w (classesS rows k)) := by
  have hxl := hx.len
  have HX := Lib.hid hx
  have HK := Lib.hid hk
  clear hx hk
  obtain ⟨cur, hmk, hcur⟩ := run_mk0 tiI rows.length (by omega) (by decide)
  have HCUR := Lib.hid hcur
  clear hcur
  go_enter Tryz.func63, Tryz.ntmps63
  go_wp2
  clear hmk
  have hst : OwnIs ((w.alloc (.cells #[.int .i64 (k : Int)] 3)).alloc (.cells cur 3)) (w.heap.size + 1) (some ⟨w.heap.size + 1, 0, none⟩) rows.length ((classesS rows k).take 0) := by
    have := Own.made (w.alloc (.cells #[.int .i64 (k : Int)] 3)) 3 1 rows.length cur (by unfold maxLen; omega) HCUR.out
    simpa [OwnIs] using this
  have HST := Lib.hid hst
  have HB := Lib.hid ((Blk.new w 3 #[.int .i64 (k : Int)]).keep (Kept.alloc _ _ (.cells cur 3)))
  clear hst
  have hcsl : (classesS rows k).length = rows.length := by simp [classesS]
  have HCSL := Lib.hid hcsl
  clear hcsl
  go_loopw [13, 5] (fun i v wr => ∃ (m : Nat) (A' : Option Addr) (c' : Nat), m ≤ rows.length ∧ i = .int .i64 m ∧ v = .slice A' m c' ∧ Ext w wr ∧ w.heap.size + 1 ≤ wr.heap.size ∧ wr.cell? ⟨w.heap.size, 0, none⟩ = some (.int .i64 (k : Int)) ∧ OwnIs wr (w.heap.size + 1) A' c' ((classesS rows k).take m)) (fun i _ _ => rows.length - (intOf i).toNat)
  case atStart => exact ⟨0, _, _, Nat.zero_le _, rfl, rfl, ((Ext.refl w).alloc _).alloc _, by simp, HB.out.cell rfl, HST.out⟩
  case round =>
    obtain ⟨m, A', c', hm, rfl, rfl, hext, hsz, hbox, hown⟩ := hrel
    have HE := Lib.hid hext
    have HO := Lib.hid hown
    have HBX := Lib.hid hbox
    clear hown hbox
    by_cases hlt : m < rows.length
    · obtain ⟨b1, o1, A2, c2, rfl, z1, p0, hcr, hrow⟩ := (HX.out.keep (hext.kept S)).at_ hlt
      have HROW := Lib.hid hrow
      clear hrow hext
      go_wp2_with fail
      refine (table_IndexFunc q rows rows[m] (some ⟨b1, o1, none⟩) A2 ca c2 k w.heap.size wr.heap.size _ S S ((HX.out.keep (HE.out.kept S)).keep (Kept.alloc _ _ _)) (HROW.out.keep (Kept.alloc _ _ _)) HK.out (HK.out m hlt) (((Ext.refl wr).alloc _).cell HBX.out) ((Blk.new wr 45 #[.slice A2 rows[m].length c2]).cell rfl)).mono ?_
      rintro e w1 ⟨rfl, hx1⟩
      have HX1 := Lib.hid (((Ext.refl wr).alloc _).trans hx1)
      have hsz1 : wr.heap.size < w1.heap.size := by have := hx1.size; simp at this; omega
      clear hx1
      have hval : (classesS rows k)[m]'(by rw [HCSL.out]; exact hlt) = idxF (eqAt k rows[m]) rows := by simp [classesS]
      have HVAL := Lib.hid hval
      clear hval
      have hlm : ((classesS rows k).take m).length = m := by rw [List.length_take, HCSL.out]; omega
      have hown := HO.out.ext (HX1.out.alloc (.cells #[.int .i64 (idxF (eqAt k rows[m]) rows)] 3))
      unfold OwnIs at hown
      rw [hlm] at hown
      have HOWN := Lib.hid hown
      clear hown hlm
      go_wp2_with (at_builtin; go_must (refine wpList_app rfl (.tmp 17) (.tmp 21) rfl tiI rfl HOWN.out rfl (Blk.rd (Blk.new _ _ _)) rfl (by simp [Value.oneCell']) (by omega) (by decide) (by simp; omega) ?_); intro A4 c4 w4 hown4 hg4 hat4)
      go_roundw
      case rel =>
        have hnb : ∀ b, ob A' = some b → w.heap.size + 1 ≤ b := fun b hb => (HOWN.out.blk hb).1
        refine ⟨m + 1, A4, c4, by omega, by go_num, rfl, Ext.grown (HE.out.trans (HX1.out.alloc _)) hg4 (fun b hb => by have := hnb b hb; omega), by have := hg4.size; simp at this; omega, ?_, ?_⟩
        · rw [World.cell?_of_block (hg4.block w.heap.size (by simp; omega) (fun e => by have := hnb _ e.symm; omega))]
          exact ((Ext.refl wr).trans (HX1.out.alloc _)).cell HBX.out
        · rw [List.take_succ_eq_append_getElem (by rw [HCSL.out]; exact hlt), HVAL.out]
          unfold OwnIs
          rw [List.length_append, List.length_take, HCSL.out, Nat.min_eq_left hm, List.map_append]
          exact hown4
      case measure => simp [intOf]; omega
    · have hme : m = rows.length := by omega
      subst hme
      clear hext
      have ho := HO.out
      rw [List.take_of_length_le (by rw [HCSL.out]; exact Nat.le_refl _)] at ho
      have HO2 := Lib.hid ho
      clear ho
      go_wp2
      go_ret
      refine ⟨A', c', by rw [HCSL.out]; rfl, Own.cap HO2.out, HO2.out.ints (by rw [HCSL.out]; exact hxl) (fun b hb => ?_), HE.out⟩
      have := (Own.blk HO2.out hb).1
      unfold Fresh
      omega
end Go.Proofs.YtcmmkeiiapbgcaaGreatDoor
