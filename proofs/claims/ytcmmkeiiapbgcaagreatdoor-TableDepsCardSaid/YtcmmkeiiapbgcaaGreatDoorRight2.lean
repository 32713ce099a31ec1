/- Which tables are right: value.rightTable, value.Right. No conditions but that the arguments read as data. -/
import Derived.Test.YtcmmkeiiapbgcaaGreatDoorRight
namespace Go.Proofs.YtcmmkeiiapbgcaaGreatDoor
open Go Go.RowKit

def colOK (cols : List ByteArray) (i : Nat) : Bool := nameB (cols.getD i ⟨#[]⟩) && !memS (cols.take i) (cols.getD i ⟨#[]⟩)
def cellOK (x : Val) : Bool := decide (x.kind ≠ 5) && flatB x
def rowOK (n : Nat) (r : List Val) : Bool := decide (r.length = n) && r.all cellOK
def tableR (cols : List ByteArray) (rows : List (List Val)) : Bool :=
  decide (cols.length ≤ 8 ∧ rows.length ≤ 100) && (List.range cols.length).all (colOK cols) && rows.all (rowOK cols.length)
def rightB (x : Val) : Bool := if x.kind = 5 then tableR x.cols x.rows && bareB { x with cols := [], rows := [] } else flatB x

theorem Strs.take {w : World} {S : Nat → Prop} {A : Option Addr} {l : List ByteArray} (h : Strs w S A l) (k : Nat) : Strs w S A (l.take k) :=
  ⟨by rw [List.map_take]; exact h.1.take k, by rw [List.length_take]; have := h.2.1; omega, fun s hs => h.2.2 s (List.mem_of_mem_take hs)⟩
theorem getD_of {α : Type} (l : List α) (i : Nat) (z : α) (h : i < l.length) : l.getD i z = l[i] := by simp [h]

theorem range_all {n : Nat} {p : Nat → Bool} (h : ∀ j, j < n → p j = true) : (List.range n).all p = true := by
  rw [List.all_eq_true]
  intro x hx
  exact h x (List.mem_range.1 hx)
theorem range_not {n : Nat} {p : Nat → Bool} {j : Nat} (hj : j < n) (h : p j = false) : (List.range n).all p = false := by
  rw [List.all_eq_false]
  exact ⟨j, List.mem_range.2 hj, by simp [h]⟩

set_option maxRecDepth 100000 in
set_option maxHeartbeats 1000000 in
theorem value_rightTable (q : Nat) (cols : List ByteArray) (rows : List (List Val)) (A B : Option Addr) (c e : Nat) (w : World) (S T : Nat → Prop) (hA : Strs w S A cols) (hB : Rows w T q B rows) (hcap : cols.length ≤ c) :
    Calls Tryz.prog 94 #[.slice A cols.length c, .slice B rows.length e] w (RetB w (tableR cols rows)) := by
  have hn := hA.2.1
  have hm := hB.len
  by_cases h1 : cols.length ≤ 8
  case neg =>
    have HF := Lib.hid (show tableR cols rows = false by unfold tableR; rw [decide_eq_false (by omega)]; rfl)
    have h1' : (8 : Int) < (cols.length : Int) := by omega
    go_enter Tryz.func94, Tryz.ntmps94
    go_wp2
    go_ret
    exact ⟨by rw [HF.out]; rfl, Ext.refl _⟩
  by_cases h2 : rows.length ≤ 100
  case neg =>
    have HF := Lib.hid (show tableR cols rows = false by unfold tableR; rw [decide_eq_false (by omega)]; rfl)
    have h1' : ¬ (8 : Int) < (cols.length : Int) := by omega
    have h2' : (100 : Int) < (rows.length : Int) := by omega
    go_enter Tryz.func94, Tryz.ntmps94
    go_wp2
    go_ret
    exact ⟨by rw [HF.out]; rfl, Ext.refl _⟩
  have h1' : ¬ (8 : Int) < (cols.length : Int) := by omega
  have h2' : ¬ (100 : Int) < (rows.length : Int) := by omega
  have h3' : (cols.length : Int) ≤ 8 := by omega
  have h4' : (rows.length : Int) ≤ 100 := by omega
  go_enter Tryz.func94, Tryz.ntmps94
  go_wp2
  go_loop [21] (fun i => ∃ k : Nat, k ≤ cols.length ∧ i = .int .i64 k ∧ ∀ j, j < k → colOK cols j = true) (fun i => cols.length - (intOf i).toNat)
  case atStart => exact ⟨0, Nat.zero_le _, rfl, by intros; omega⟩
  case round =>
    obtain ⟨k, hk, rfl, hall⟩ := hrel
    have HA := Lib.hid hall
    clear hall
    by_cases hlt : k < cols.length
    · obtain ⟨b1, o1, rfl, z1, c1⟩ := hA.at_ hlt
      have hsz := hA.sz hlt
      have HTK := Lib.hid (hA.take k)
      have hlk : (cols.take k).length = k := by rw [List.length_take]; omega
      cases hnm : nameB cols[k]
      · have HF := Lib.hid (show tableR cols rows = false by unfold tableR; rw [range_not hlt (by unfold colOK; rw [getD_of _ _ _ hlt, hnm]; rfl)]; simp)
        have HN := Lib.hid hnm
        clear hnm
        go_wp2_with (go_at_call 126; refine (value_isName _ hsz _).mono ?_; rintro e1 w1 ⟨rfl, rfl⟩; rw [HN.out])
        go_ret
        exact ⟨by rw [HF.out]; rfl, Ext.refl _⟩
      · have HN := Lib.hid hnm
        have HCON := Lib.hid (slices_Contains (some ⟨b1, o1, none⟩) c (cols.take k) cols[k] w S HTK.out)
        rw [hlk] at HCON
        cases hmm : memS (cols.take k) cols[k]
        · have HM := Lib.hid hmm
          have HC := Lib.hid (show colOK cols k = true by unfold colOK; rw [getD_of _ _ _ hlt, hnm, hmm]; rfl)
          clear hnm hmm hlk
          go_wp2_with (first | (go_at_call 126; refine (value_isName _ hsz _).mono ?_; rintro e1 w1 ⟨rfl, rfl⟩; rw [HN.out]) | (go_at_call 72; refine HCON.out.mono ?_; rintro e1 w1 ⟨rfl, rfl⟩; rw [HM.out]))
          go_round
          case rel =>
            refine ⟨k + 1, by omega, by go_num, fun j hj => ?_⟩
            by_cases hjk : j = k
            · subst hjk; exact HC.out
            · exact HA.out j (by omega)
          case measure => simp [intOf]; omega
        · have HM := Lib.hid hmm
          have HF := Lib.hid (show tableR cols rows = false by unfold tableR; rw [range_not hlt (by unfold colOK; rw [getD_of _ _ _ hlt, hnm, hmm]; rfl)]; simp)
          clear hnm hmm hlk
          go_wp2_with (first | (go_at_call 126; refine (value_isName _ hsz _).mono ?_; rintro e1 w1 ⟨rfl, rfl⟩; rw [HN.out]) | (go_at_call 72; refine HCON.out.mono ?_; rintro e1 w1 ⟨rfl, rfl⟩; rw [HM.out]))
          go_ret
          exact ⟨by rw [HF.out]; rfl, Ext.refl _⟩
    · have HCOL := Lib.hid (range_all (n := cols.length) (p := colOK cols) (fun j hj => HA.out j (by omega)))
      go_wp2
      go_loopw [39] (fun i wr => ∃ k : Nat, k ≤ rows.length ∧ i = .int .i64 k ∧ Ext w wr ∧ ∀ j (h : j < rows.length), j < k → rowOK cols.length rows[j] = true) (fun i _ => rows.length - (intOf i).toNat)
      case atStart => exact ⟨0, Nat.zero_le _, rfl, Ext.refl _, by intros; omega⟩
      case round =>
        rename_i k0 _ _ _ _
        obtain ⟨i, hi, rfl, hext, hall⟩ := hrel
        have HR := Lib.hid hall
        have HE := Lib.hid hext
        clear hall
        by_cases hlt2 : i < rows.length
        · obtain ⟨b1, o1, A2, c2, rfl, z1, p0, hcr, hrow⟩ := (hB.keep (hext.kept T)).at_ hlt2
          have hrl := hrow.len
          have HROW := Lib.hid hrow
          clear hrow hext
          by_cases hln : rows[i].length = cols.length
          · have hn1 : ((rows[i].length : Int) != (cols.length : Int)) = false := by simp [hln]
            have HLN := Lib.hid hln
            clear hln
            go_wp2
            obtain ⟨wo, rfl⟩ : ∃ wo : World, wo = wr := ⟨_, rfl⟩
            go_loopw [50] (fun v wi => ∃ j : Nat, j ≤ rows[i].length ∧ v = .int .i64 j ∧ Ext wo wi ∧ ∀ m (h : m < rows[i].length), m < j → cellOK rows[i][m] = true) (fun v _ => rows[i].length - (intOf v).toNat)
            case atStart => exact ⟨0, Nat.zero_le _, rfl, Ext.refl _, by intros; omega⟩
            case round =>
              obtain ⟨j, hj, rfl, hexi, halli⟩ := hrel
              have HI := Lib.hid halli
              have HEI := Lib.hid hexi
              clear halli
              by_cases hlt3 : j < rows[i].length
              · obtain ⟨b2, o2, A5, c5, B5, e5, rfl, z2, ⟨p0, p1, p2, p3, p4, p5, p6⟩, ⟨hq, _, _⟩, hv⟩ := (HROW.out.keep (hexi.kept T)).at_ hlt3
                have hvs := hv.size
                clear hv hexi
                by_cases hk5 : rows[i][j].kind = 5
                · have hk5' : (rows[i][j].kind == 5) = true := by simp [hk5]
                  have HF := Lib.hid (show tableR cols rows = false by
                    unfold tableR
                    rw [all_not rows (rowOK cols.length) i hlt2 (by unfold rowOK; rw [all_not rows[i] cellOK j hlt3 (by simp [cellOK, hk5])]; simp)]
                    simp)
                  clear hk5
                  go_wp2
                  go_ret
                  exact ⟨by rw [HF.out]; rfl, HE.out.trans (HEI.out.alloc _)⟩
                · have hk5' : (rows[i][j].kind == 5) = false := by simp [hk5]
                  have HK5 := Lib.hid hk5
                  have HRF := Lib.hid (value_Right_flat rows[i][j] A5 B5 c5 e5 · hk5 hvs)
                  clear hk5
                  go_wp2_with fail
                  refine (HRF.out _).mono ?_
                  rintro e1 w1 ⟨rfl, hx1⟩
                  have HX1 := Lib.hid hx1
                  clear hx1
                  cases hfl : flatB rows[i][j]
                  · have HF := Lib.hid (show tableR cols rows = false by
                      unfold tableR
                      rw [all_not rows (rowOK cols.length) i hlt2 (by unfold rowOK; rw [all_not rows[i] cellOK j hlt3 (by simp [cellOK, hfl])]; simp)]
                      simp)
                    clear hfl
                    go_wp2
                    go_ret
                    exact ⟨by rw [HF.out]; rfl, HE.out.trans ((HEI.out.alloc _).trans HX1.out)⟩
                  · have HFL := Lib.hid (show cellOK rows[i][j] = true by simp [cellOK, hfl, HK5.out])
                    clear hfl
                    go_wp2
                    go_roundw
                    case rel =>
                      refine ⟨j + 1, by omega, by go_num, (HEI.out.alloc _).trans HX1.out, fun m h hm => ?_⟩
                      by_cases hjk : m = j
                      · subst hjk; exact HFL.out
                      · exact HI.out m h (by omega)
                    case measure => simp [intOf]; omega
              · have HRO := Lib.hid (show rowOK cols.length rows[i] = true by
                  unfold rowOK
                  rw [all_take rows[i] cellOK (fun m h => HI.out m h (by omega)), HLN.out]
                  simp)
                go_wp2
                go_roundw
                case rel =>
                  refine ⟨i + 1, by omega, by go_num, HE.out.trans HEI.out, fun j h hj => ?_⟩
                  by_cases hjk : j = i
                  · subst hjk; exact HRO.out
                  · exact HR.out j h (by omega)
                case measure => simp [intOf]; omega
          · have hn1 : ((rows[i].length : Int) != (cols.length : Int)) = true := by rw [bne_iff_ne]; omega
            have HF := Lib.hid (show tableR cols rows = false by
              unfold tableR
              rw [all_not rows (rowOK cols.length) i hlt2 (by unfold rowOK; rw [decide_eq_false hln]; rfl)]
              simp)
            clear hln
            go_wp2
            go_ret
            exact ⟨by rw [HF.out]; rfl, HE.out⟩
        · have HF := Lib.hid (show tableR cols rows = true by
            unfold tableR
            rw [HCOL.out, all_take rows (rowOK cols.length) (fun j h => HR.out j h (by omega)), decide_eq_true ⟨h1, h2⟩]
            rfl)
          clear hext
          go_wp2
          go_ret
          exact ⟨by rw [HF.out]; rfl, HE.out⟩

set_option maxRecDepth 100000 in
set_option maxHeartbeats 400000 in
theorem value_Right_5 (q : Nat) (x : Val) (A B : Option Addr) (c e : Nat) (w : World) (S : Nat → Prop) (h : RV w S q x A B) (hcap : x.cols.length ≤ c) (hk : x.kind = 5) : Calls Tryz.prog 52 #[(.agg #[.int .i64 x.kind, .string x.s, .int .i64 x.dn, .int .i64 x.ds, .int .i64 x.n, .slice A x.cols.length c, .slice B x.rows.length e])] w (RetB w (rightB x)) := by
  have hf : rightB x = (tableR x.cols x.rows && bareB { x with cols := [], rows := [] }) := by simp [rightB, hk]
  have HF := Lib.hid hf
  have H := Lib.hid h
  have k0 : (x.kind == 0) = false := by simp [hk]
  have k1 : (x.kind == 1) = false := by simp [hk]
  have k2 : (x.kind == 2) = false := by simp [hk]
  have k3 : (x.kind == 3) = false := by simp [hk]
  have k4 : (x.kind == 4) = false := by simp [hk]
  have k5 : (x.kind == 5) = true := by simp [hk]
  clear hf hk h
  go_enter Tryz.func52, Tryz.ntmps52
  go_wp2_with fail
  refine (value_rightTable q x.cols x.rows A B c e _ S S (H.out.strs.keep ((((Ext.refl w).alloc _).alloc _).kept _)) (H.out.rows_.keep ((((Ext.refl w).alloc _).alloc _).kept _)) hcap).mono ?_
  rintro e1 w1 ⟨rfl, hx1⟩
  obtain ⟨hc1, hf1⟩ := bcell hx1
  have hz1 := hx1.size
  simp at hc1 hf1 hz1
  have hz2 : w.heap.size < w1.heap.size := by omega
  have hz3 : w.heap.size + 1 < w1.heap.size := by omega
  have HX := Lib.hid hx1
  cases ht : tableR x.cols x.rows
  · have HT := Lib.hid ht
    clear ht hx1
    go_wp2
    go_ret
    exact ⟨by rw [HF.out, HT.out]; rfl, Ext.trans ((((Ext.refl w).alloc _).alloc _)) HX.out⟩
  · have HT := Lib.hid ht
    clear ht hx1
    go_wp2_with fail
    refine (value_bare { x with cols := [], rows := [] } none none 0 0 _).mono ?_
    rintro e1 w2 ⟨rfl, hx2⟩
    have HX2 := Lib.hid hx2
    clear hx2
    go_wp2
    go_ret
    exact ⟨by rw [HF.out, HT.out]; rfl, Ext.trans (((Ext.refl w).alloc _).alloc _) (Ext.trans HX.out HX2.out)⟩

theorem value_Right (q : Nat) (x : Val) (A B : Option Addr) (c e : Nat) (w : World) (S : Nat → Prop) (h : RV w S q x A B) (hcap : x.cols.length ≤ c) : Calls Tryz.prog 52 #[(.agg #[.int .i64 x.kind, .string x.s, .int .i64 x.dn, .int .i64 x.ds, .int .i64 x.n, .slice A x.cols.length c, .slice B x.rows.length e])] w (RetB w (rightB x)) := by
  by_cases hk : x.kind = 5
  · exact value_Right_5 q x A B c e w S h hcap hk
  · have := value_Right_flat x A B c e w hk h.size
    rwa [show flatB x = rightB x by simp [rightB, hk]] at this
end Go.Proofs.YtcmmkeiiapbgcaaGreatDoor
