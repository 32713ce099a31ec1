/- The reference's Right of values that are no tables. Conditions: the value reads as data. -/
import Derived.Test.YtcmmkeiiapbgcaaGreatDoorBm7
namespace Go.Proofs.YtcmmkeiiapbgcaaGreatDoor
open Go Go.RowKit

set_option maxRecDepth 100000 in
set_option maxHeartbeats 400000 in
theorem r06_Right_0 (q : Nat) (x : Val) (A B : Option Addr) (c e : Nat) (w : World) (S : Nat → Prop) (h : RV w S q x A B) (hk : x.kind = 0) : Calls Tryz.prog 54 #[(.agg #[.int .i64 x.kind, .string x.s, .int .i64 x.dn, .int .i64 x.ds, .int .i64 x.n, .slice A x.cols.length c, .slice B x.rows.length e])] w (RetB w (flatB x)) := by
  have hf : flatB x = (decide (0 ≤ x.n ∧ x.n ≤ 99) && decide (x = ⟨x.kind, ⟨#[]⟩, 0, 0, x.n, [], []⟩)) := by
    cases x
    simp_all [flatB, bareB]
  have HF := Lib.hid hf
  have H := Lib.hid h
  have k0 : (x.kind == 0) = true := by simp [hk]
  have k1 : (x.kind == 1) = false := by simp [hk]
  have k2 : (x.kind == 2) = false := by simp [hk]
  have k3 : (x.kind == 3) = false := by simp [hk]
  have k4 : (x.kind == 4) = false := by simp [hk]
  have k5 : (x.kind == 5) = false := by simp [hk]
  clear hf hk h
  by_cases h1 : 0 ≤ x.n
  · by_cases h2 : x.n ≤ 99
    · go_enter Tryz.func54, Tryz.ntmps54
      go_wp2_with fail
      refine (r06_Equal q x ⟨x.kind, ⟨#[]⟩, 0, 0, x.n, [], []⟩ A B none none c e 0 0 _ S S (H.out.keep ((((Ext.refl w).alloc _).alloc _).kept _)) (RV.mk (Nat.zero_le _) Strs.nil Rows.nil)).mono ?_
      rintro e1 w2 ⟨rfl, hx2⟩
      have HX2 := Lib.hid hx2
      clear hx2
      go_wp2
      go_ret
      exact ⟨by rw [HF.out, decide_eq_true (show (0 ≤ x.n ∧ x.n ≤ 99) from ⟨h1, h2⟩), Bool.true_and]; rfl, Ext.trans (((Ext.refl w).alloc _).alloc _) HX2.out⟩
    · go_enter Tryz.func54, Tryz.ntmps54
      go_wp2
      go_ret
      exact ⟨by rw [HF.out, decide_eq_false (by omega), Bool.false_and]; rfl, (((Ext.refl w).alloc _).alloc _)⟩
  · go_enter Tryz.func54, Tryz.ntmps54
    go_wp2
    go_ret
    exact ⟨by rw [HF.out, decide_eq_false (by omega), Bool.false_and]; rfl, (((Ext.refl w).alloc _).alloc _)⟩

set_option maxRecDepth 100000 in
set_option maxHeartbeats 400000 in
theorem r06_Right_1 (q : Nat) (x : Val) (A B : Option Addr) (c e : Nat) (w : World) (S : Nat → Prop) (h : RV w S q x A B) (hk : x.kind = 1) : Calls Tryz.prog 54 #[(.agg #[.int .i64 x.kind, .string x.s, .int .i64 x.dn, .int .i64 x.ds, .int .i64 x.n, .slice A x.cols.length c, .slice B x.rows.length e])] w (RetB w (flatB x)) := by
  have hf : flatB x = (textB x.s && decide (x = ⟨x.kind, x.s, 0, 0, 0, [], []⟩)) := by
    cases x
    simp_all [flatB, bareB]
  have HF := Lib.hid hf
  have H := Lib.hid h
  have k0 : (x.kind == 0) = false := by simp [hk]
  have k1 : (x.kind == 1) = true := by simp [hk]
  have k2 : (x.kind == 2) = false := by simp [hk]
  have k3 : (x.kind == 3) = false := by simp [hk]
  have k4 : (x.kind == 4) = false := by simp [hk]
  have k5 : (x.kind == 5) = false := by simp [hk]
  clear hf hk h
  have hs := H.out.size
  cases ht : textB x.s
  · have HT := Lib.hid ht
    clear ht
    go_enter Tryz.func54, Tryz.ntmps54
    go_wp2_with (go_at_call 95; refine (r06_Plain _ hs _).mono ?_; rintro e w' ⟨rfl, rfl⟩; rw [HT.out])
    go_ret
    exact ⟨by rw [HF.out, HT.out]; rfl, (((Ext.refl w).alloc _).alloc _)⟩
  · have HT := Lib.hid ht
    clear ht
    go_enter Tryz.func54, Tryz.ntmps54
    go_wp2_with (go_at_call 95; refine (r06_Plain _ hs _).mono ?_; rintro e w' ⟨rfl, rfl⟩; rw [HT.out])
    refine (r06_Equal q x ⟨x.kind, x.s, 0, 0, 0, [], []⟩ A B none none c e 0 0 _ S S (H.out.keep ((((Ext.refl w).alloc _).alloc _).kept _)) (RV.mk H.out.size Strs.nil Rows.nil)).mono ?_
    rintro e1 w2 ⟨rfl, hx2⟩
    have HX2 := Lib.hid hx2
    clear hx2
    go_wp2
    go_ret
    exact ⟨by rw [HF.out, HT.out, Bool.true_and]; rfl, Ext.trans (((Ext.refl w).alloc _).alloc _) HX2.out⟩

set_option maxRecDepth 100000 in
set_option maxHeartbeats 400000 in
theorem r06_Right_2 (q : Nat) (x : Val) (A B : Option Addr) (c e : Nat) (w : World) (S : Nat → Prop) (h : RV w S q x A B) (hk : x.kind = 2) : Calls Tryz.prog 54 #[(.agg #[.int .i64 x.kind, .string x.s, .int .i64 x.dn, .int .i64 x.ds, .int .i64 x.n, .slice A x.cols.length c, .slice B x.rows.length e])] w (RetB w (flatB x)) := by
  have hf : flatB x = (decR x.dn x.ds && decide (x = ⟨x.kind, ⟨#[]⟩, x.dn, x.ds, 0, [], []⟩)) := by
    cases x
    simp_all [flatB, bareB]
  have HF := Lib.hid hf
  have H := Lib.hid h
  have k0 : (x.kind == 0) = false := by simp [hk]
  have k1 : (x.kind == 1) = false := by simp [hk]
  have k2 : (x.kind == 2) = true := by simp [hk]
  have k3 : (x.kind == 3) = false := by simp [hk]
  have k4 : (x.kind == 4) = false := by simp [hk]
  have k5 : (x.kind == 5) = false := by simp [hk]
  clear hf hk h
  go_enter Tryz.func54, Tryz.ntmps54
  go_wp2_with fail
  refine (r04_Right x.dn x.ds _).mono ?_
  rintro e1 w1 ⟨rfl, hx1⟩
  obtain ⟨hc1, hf1⟩ := bcell hx1
  have hz1 := hx1.size
  simp at hc1 hf1 hz1
  have hz2 : w.heap.size < w1.heap.size := by omega
  have hz3 : w.heap.size + 1 < w1.heap.size := by omega
  have HX := Lib.hid hx1
  cases ht : decR x.dn x.ds
  · have HT := Lib.hid ht
    clear ht hx1
    go_wp2
    go_ret
    exact ⟨by rw [HF.out, HT.out]; rfl, Ext.trans (((Ext.refl w).alloc _).alloc _) HX.out⟩
  · have HT := Lib.hid ht
    clear ht hx1
    go_wp2_with fail
    refine (r06_Equal q x ⟨x.kind, ⟨#[]⟩, x.dn, x.ds, 0, [], []⟩ A B none none c e 0 0 _ S S (H.out.keep ((Ext.trans (((Ext.refl w).alloc _).alloc _) HX.out).kept _)) (RV.mk (Nat.zero_le _) Strs.nil Rows.nil)).mono ?_
    rintro e1 w2 ⟨rfl, hx2⟩
    have HX2 := Lib.hid hx2
    clear hx2
    go_wp2
    go_ret
    exact ⟨by rw [HF.out, HT.out, Bool.true_and]; rfl, Ext.trans (Ext.trans (((Ext.refl w).alloc _).alloc _) HX.out) HX2.out⟩

set_option maxRecDepth 100000 in
set_option maxHeartbeats 400000 in
theorem r06_Right_3 (q : Nat) (x : Val) (A B : Option Addr) (c e : Nat) (w : World) (S : Nat → Prop) (h : RV w S q x A B) (hk : x.kind = 3) : Calls Tryz.prog 54 #[(.agg #[.int .i64 x.kind, .string x.s, .int .i64 x.dn, .int .i64 x.ds, .int .i64 x.n, .slice A x.cols.length c, .slice B x.rows.length e])] w (RetB w (flatB x)) := by
  have hf : flatB x = (decide (0 ≤ x.n ∧ x.n ≤ 3652058) && decide (x = ⟨x.kind, ⟨#[]⟩, 0, 0, x.n, [], []⟩)) := by
    cases x
    simp_all [flatB, bareB]
  have HF := Lib.hid hf
  have H := Lib.hid h
  have k0 : (x.kind == 0) = false := by simp [hk]
  have k1 : (x.kind == 1) = false := by simp [hk]
  have k2 : (x.kind == 2) = false := by simp [hk]
  have k3 : (x.kind == 3) = true := by simp [hk]
  have k4 : (x.kind == 4) = false := by simp [hk]
  have k5 : (x.kind == 5) = false := by simp [hk]
  clear hf hk h
  by_cases h1 : 0 ≤ x.n
  · by_cases h2 : x.n ≤ 3652058
    · go_enter Tryz.func54, Tryz.ntmps54
      go_wp2_with fail
      refine (r06_Equal q x ⟨x.kind, ⟨#[]⟩, 0, 0, x.n, [], []⟩ A B none none c e 0 0 _ S S (H.out.keep ((((Ext.refl w).alloc _).alloc _).kept _)) (RV.mk (Nat.zero_le _) Strs.nil Rows.nil)).mono ?_
      rintro e1 w2 ⟨rfl, hx2⟩
      have HX2 := Lib.hid hx2
      clear hx2
      go_wp2
      go_ret
      exact ⟨by rw [HF.out, decide_eq_true (show (0 ≤ x.n ∧ x.n ≤ 3652058) from ⟨h1, h2⟩), Bool.true_and]; rfl, Ext.trans (((Ext.refl w).alloc _).alloc _) HX2.out⟩
    · go_enter Tryz.func54, Tryz.ntmps54
      go_wp2
      go_ret
      exact ⟨by rw [HF.out, decide_eq_false (by omega), Bool.false_and]; rfl, (((Ext.refl w).alloc _).alloc _)⟩
  · go_enter Tryz.func54, Tryz.ntmps54
    go_wp2
    go_ret
    exact ⟨by rw [HF.out, decide_eq_false (by omega), Bool.false_and]; rfl, (((Ext.refl w).alloc _).alloc _)⟩

set_option maxRecDepth 100000 in
set_option maxHeartbeats 400000 in
theorem r06_Right_4 (q : Nat) (x : Val) (A B : Option Addr) (c e : Nat) (w : World) (S : Nat → Prop) (h : RV w S q x A B) (hk : x.kind = 4) : Calls Tryz.prog 54 #[(.agg #[.int .i64 x.kind, .string x.s, .int .i64 x.dn, .int .i64 x.ds, .int .i64 x.n, .slice A x.cols.length c, .slice B x.rows.length e])] w (RetB w (flatB x)) := by
  have hf : flatB x = (decide (x.n = 0 ∨ x.n = 1) && decide (x = ⟨x.kind, ⟨#[]⟩, 0, 0, x.n, [], []⟩)) := by
    cases x
    simp_all [flatB, bareB]
  have HF := Lib.hid hf
  have H := Lib.hid h
  have k0 : (x.kind == 0) = false := by simp [hk]
  have k1 : (x.kind == 1) = false := by simp [hk]
  have k2 : (x.kind == 2) = false := by simp [hk]
  have k3 : (x.kind == 3) = false := by simp [hk]
  have k4 : (x.kind == 4) = true := by simp [hk]
  have k5 : (x.kind == 5) = false := by simp [hk]
  clear hf hk h
  by_cases h1 : x.n = 0
  · have n0 : (x.n == 0) = true := by simp [h1]
    have H1 := Lib.hid h1
    clear h1
    go_enter Tryz.func54, Tryz.ntmps54
    go_wp2_with fail
    refine (r06_Equal q x ⟨x.kind, ⟨#[]⟩, 0, 0, x.n, [], []⟩ A B none none c e 0 0 _ S S (H.out.keep ((((Ext.refl w).alloc _).alloc _).kept _)) (RV.mk (Nat.zero_le _) Strs.nil Rows.nil)).mono ?_
    rintro e1 w2 ⟨rfl, hx2⟩
    have HX2 := Lib.hid hx2
    clear hx2
    go_wp2
    go_ret
    exact ⟨by rw [HF.out, decide_eq_true (show x.n = 0 ∨ x.n = 1 from .inl H1.out), Bool.true_and]; rfl, Ext.trans (((Ext.refl w).alloc _).alloc _) HX2.out⟩
  · have n0 : (x.n == 0) = false := by simp [h1]
    have H1 := Lib.hid h1
    clear h1
    by_cases h2 : x.n = 1
    · have n1 : (x.n == 1) = true := by simp [h2]
      have H2 := Lib.hid h2
      clear h2
      go_enter Tryz.func54, Tryz.ntmps54
      go_wp2_with fail
      refine (r06_Equal q x ⟨x.kind, ⟨#[]⟩, 0, 0, x.n, [], []⟩ A B none none c e 0 0 _ S S (H.out.keep ((((Ext.refl w).alloc _).alloc _).kept _)) (RV.mk (Nat.zero_le _) Strs.nil Rows.nil)).mono ?_
      rintro e1 w2 ⟨rfl, hx2⟩
      have HX2 := Lib.hid hx2
      clear hx2
      go_wp2
      go_ret
      exact ⟨by rw [HF.out, decide_eq_true (show x.n = 0 ∨ x.n = 1 from .inr H2.out), Bool.true_and]; rfl, Ext.trans (((Ext.refl w).alloc _).alloc _) HX2.out⟩
    · have n1 : (x.n == 1) = false := by simp [h2]
      have H2 := Lib.hid h2
      clear h2
      go_enter Tryz.func54, Tryz.ntmps54
      go_wp2
      go_ret
      exact ⟨by rw [HF.out, decide_eq_false (show ¬ (x.n = 0 ∨ x.n = 1) from fun h => h.elim H1.out H2.out), Bool.false_and]; rfl, (((Ext.refl w).alloc _).alloc _)⟩

set_option maxRecDepth 100000 in
set_option maxHeartbeats 400000 in
theorem r06_Right_flat (q : Nat) (x : Val) (A B : Option Addr) (c e : Nat) (w : World) (S : Nat → Prop) (h : RV w S q x A B) (hk : x.kind ≠ 5) : Calls Tryz.prog 54 #[(.agg #[.int .i64 x.kind, .string x.s, .int .i64 x.dn, .int .i64 x.ds, .int .i64 x.n, .slice A x.cols.length c, .slice B x.rows.length e])] w (RetB w (flatB x)) := by
  by_cases g0 : x.kind = 0
  · exact r06_Right_0 q x A B c e w S h g0
  by_cases g1 : x.kind = 1
  · exact r06_Right_1 q x A B c e w S h g1
  by_cases g2 : x.kind = 2
  · exact r06_Right_2 q x A B c e w S h g2
  by_cases g3 : x.kind = 3
  · exact r06_Right_3 q x A B c e w S h g3
  by_cases g4 : x.kind = 4
  · exact r06_Right_4 q x A B c e w S h g4
  have hf : flatB x = false := by simp [flatB, g0, g1, g2, g3, g4]
  have HF := Lib.hid hf
  have k0 : (x.kind == 0) = false := by simp [g0]
  have k1 : (x.kind == 1) = false := by simp [g1]
  have k2 : (x.kind == 2) = false := by simp [g2]
  have k3 : (x.kind == 3) = false := by simp [g3]
  have k4 : (x.kind == 4) = false := by simp [g4]
  have k5 : (x.kind == 5) = false := by simp [hk]
  clear hf hk h g0 g1 g2 g3 g4
  go_enter Tryz.func54, Tryz.ntmps54
  go_wp2
  go_ret
  exact ⟨by rw [HF.out]; rfl, (((Ext.refl w).alloc _).alloc _)⟩
end Go.Proofs.YtcmmkeiiapbgcaaGreatDoor
/- The reference's Right: concordref06.Rows, Right. Conditions: the arguments read as data. -/
namespace Go.Proofs.YtcmmkeiiapbgcaaGreatDoor
open Go Go.RowKit

set_option maxRecDepth 100000 in
set_option maxHeartbeats 1000000 in
theorem r06_Rows (q : Nat) (cols : List ByteArray) (rows : List (List Val)) (A B : Option Addr) (c e : Nat) (w : World) (S T : Nat → Prop) (hA : Strs w S A cols) (hB : Rows w T q B rows) :
    Calls Tryz.prog 97 #[.slice A cols.length c, .slice B rows.length e] w (RetB w (tableR cols rows)) := by
  have hn := hA.2.1
  have hm := hB.len
  have HSA := Lib.hid hA
  have HSB := Lib.hid hB
  clear hA hB
  cases hnm : namesB cols
  case false =>
    have HN := Lib.hid hnm
    have HF := Lib.hid (show tableR cols rows = false by unfold tableR; rw [show (List.range cols.length).all (colOK cols) = false from hnm]; simp)
    clear hnm
    go_enter Tryz.func97, Tryz.ntmps97
    go_wp2_with (go_at_call 127; refine (r06_Names A c cols _ S HSA.out).mono ?_; rintro e1 w1 ⟨rfl, n1, rfl⟩; rw [HN.out])
    go_ret
    exact ⟨by rw [HF.out]; rfl, (Ext.refl _).drewN _⟩
  have HN := Lib.hid hnm
  clear hnm
  by_cases h1 : cols.length ≤ 8
  case neg =>
    have HF := Lib.hid (show tableR cols rows = false by unfold tableR; rw [decide_eq_false (by omega)]; rfl)
    have h1' : (8 : Int) < (cols.length : Int) := by omega
    go_enter Tryz.func97, Tryz.ntmps97
    go_wp2_with (go_at_call 127; refine (r06_Names A c cols _ S HSA.out).mono ?_; rintro e1 w1 ⟨rfl, n1, rfl⟩; rw [HN.out])
    go_ret
    exact ⟨by rw [HF.out]; rfl, (Ext.refl _).drewN _⟩
  by_cases h2 : rows.length ≤ 100
  case neg =>
    have HF := Lib.hid (show tableR cols rows = false by unfold tableR; rw [decide_eq_false (by omega)]; rfl)
    have h1' : ¬ (8 : Int) < (cols.length : Int) := by omega
    have h2' : (100 : Int) < (rows.length : Int) := by omega
    go_enter Tryz.func97, Tryz.ntmps97
    go_wp2_with (go_at_call 127; refine (r06_Names A c cols _ S HSA.out).mono ?_; rintro e1 w1 ⟨rfl, n1, rfl⟩; rw [HN.out])
    go_ret
    exact ⟨by rw [HF.out]; rfl, (Ext.refl _).drewN _⟩
  have h1' : ¬ (8 : Int) < (cols.length : Int) := by omega
  have h2' : ¬ (100 : Int) < (rows.length : Int) := by omega
  have h3' : (cols.length : Int) ≤ 8 := by omega
  have h4' : (rows.length : Int) ≤ 100 := by omega
  go_enter Tryz.func97, Tryz.ntmps97
  go_wp2_with (go_at_call 127; refine (r06_Names A c cols _ S HSA.out).mono ?_; rintro e1 w1 ⟨rfl, n1, rfl⟩; rw [HN.out])
  go_loopw [6] (fun i wr => ∃ k : Nat, k ≤ rows.length ∧ i = .int .i64 k ∧ Ext w wr ∧ ∀ j (h : j < rows.length), j < k → rowOK cols.length rows[j] = true) (fun i _ => rows.length - (intOf i).toNat)
  case atStart => exact ⟨0, Nat.zero_le _, rfl, (Ext.refl _).drewN _, by intros; omega⟩
  case round =>
    obtain ⟨i, hi, rfl, hext, hall⟩ := hrel
    have HR := Lib.hid hall
    have HE := Lib.hid hext
    clear hall
    by_cases hlt2 : i < rows.length
    · obtain ⟨b1, o1, A2, c2, rfl, z1, p0, hcr, hrow⟩ := (HSB.out.keep (hext.kept T)).at_ hlt2
      have hrl := hrow.len
      have HROW := Lib.hid hrow
      clear hrow hext
      by_cases hln : rows[i].length = cols.length
      · have hn1 : ((rows[i].length : Int) != (cols.length : Int)) = false := by simp [hln]
        have HLN := Lib.hid hln
        clear hln
        go_wp2
        obtain ⟨wo, rfl⟩ : ∃ wo : World, wo = wr := ⟨_, rfl⟩
        have HP0 := Lib.hid p0
        clear p0
        go_loopw [7] (fun v wi => ∃ j : Nat, j ≤ rows[i].length ∧ v = .int .i64 j ∧ Ext wo wi ∧ ∀ m (h : m < rows[i].length), m < j → cellOK rows[i][m] = true) (fun v _ => rows[i].length - (intOf v).toNat)
        case atStart => exact ⟨0, Nat.zero_le _, rfl, Ext.refl _, by intros; omega⟩
        case round =>
          obtain ⟨j, hj, rfl, hexi, halli⟩ := hrel
          have HI := Lib.hid halli
          have HEI := Lib.hid hexi
          have p0 := hexi.cell HP0.out
          have z1' := Nat.lt_of_lt_of_le z1 hexi.size
          clear halli
          by_cases hlt3 : j < rows[i].length
          · obtain ⟨b2, o2, A5, c5, B5, e5, rfl, z2, ⟨q0, q1, q2, q3, q4, q5, q6⟩, ⟨hq, _, _⟩, hv⟩ := (HROW.out.keep (hexi.kept T)).at_ hlt3
            have HV := Lib.hid hv
            clear hv hexi
            by_cases hk5 : rows[i][j].kind = 5
            · have hk5' : (rows[i][j].kind == 5) = true := by simp [hk5]
              have HF := Lib.hid (show tableR cols rows = false by
                unfold tableR
                rw [all_not rows (rowOK cols.length) i hlt2 (by unfold rowOK; rw [all_not rows[i] cellOK j hlt3 (by simp [cellOK, hk5])]; simp)]
                simp)
              clear hk5
              go_wp2
              go_ret
              exact ⟨by rw [HF.out]; rfl, HE.out.trans HEI.out⟩
            · have hk5' : (rows[i][j].kind == 5) = false := by simp [hk5]
              have HK5 := Lib.hid hk5
              clear hk5
              go_wp2_with fail
              refine (r06_Right_flat (q - 1) rows[i][j] A5 B5 c5 e5 _ T HV.out HK5.out).mono ?_
              rintro e1 w1 ⟨rfl, hx1⟩
              have HX1 := Lib.hid hx1
              clear hx1
              cases hfl : flatB rows[i][j]
              · have HF := Lib.hid (show tableR cols rows = false by
                  unfold tableR
                  rw [all_not rows (rowOK cols.length) i hlt2 (by unfold rowOK; rw [all_not rows[i] cellOK j hlt3 (by simp [cellOK, hfl])]; simp)]
                  simp)
                clear hfl
                go_wp2
                go_ret
                exact ⟨by rw [HF.out]; rfl, HE.out.trans (HEI.out.trans HX1.out)⟩
              · have HFL := Lib.hid (show cellOK rows[i][j] = true by simp [cellOK, hfl, HK5.out])
                clear hfl
                go_wp2
                go_roundw
                case rel =>
                  refine ⟨j + 1, by omega, by go_num, HEI.out.trans HX1.out, fun m h hm => ?_⟩
                  by_cases hjk : m = j
                  · subst hjk; exact HFL.out
                  · exact HI.out m h (by omega)
                case measure => simp [intOf]; omega
          · have HRO := Lib.hid (show rowOK cols.length rows[i] = true by
              unfold rowOK
              rw [all_take rows[i] cellOK (fun m h => HI.out m h (by omega)), HLN.out]
              simp)
            clear hexi
            go_wp2
            go_roundw
            case rel =>
              refine ⟨i + 1, by omega, by go_num, HE.out.trans HEI.out, fun j h hj => ?_⟩
              by_cases hjk : j = i
              · subst hjk; exact HRO.out
              · exact HR.out j h (by omega)
            case measure => simp [intOf]; omega
      · have hn1 : ((rows[i].length : Int) != (cols.length : Int)) = true := by rw [bne_iff_ne]; omega
        have HF := Lib.hid (show tableR cols rows = false by
          unfold tableR
          rw [all_not rows (rowOK cols.length) i hlt2 (by unfold rowOK; rw [decide_eq_false hln]; rfl)]
          simp)
        clear hln
        go_wp2
        go_ret
        exact ⟨by rw [HF.out]; rfl, HE.out⟩
    · have HF := Lib.hid (show tableR cols rows = true by
        unfold tableR
        rw [show (List.range cols.length).all (colOK cols) = true from HN.out, all_take rows (rowOK cols.length) (fun j h => HR.out j h (by omega)), decide_eq_true ⟨h1, h2⟩]
        rfl)
      clear hext
      go_wp2
      go_ret
      exact ⟨by rw [HF.out]; rfl, HE.out⟩

set_option maxRecDepth 100000 in
set_option maxHeartbeats 1000000 in
theorem r06_Right_5 (q : Nat) (x : Val) (A B : Option Addr) (c e : Nat) (w : World) (S : Nat → Prop) (h : RV w S q x A B) (hk : x.kind = 5) : Calls Tryz.prog 54 #[(.agg #[.int .i64 x.kind, .string x.s, .int .i64 x.dn, .int .i64 x.ds, .int .i64 x.n, .slice A x.cols.length c, .slice B x.rows.length e])] w (RetB w (rightB x)) := by
  have hf : rightB x = (tableR x.cols x.rows && decide (x = ⟨x.kind, ⟨#[]⟩, 0, 0, 0, x.cols, x.rows⟩)) := by
    cases x
    simp_all [rightB, bareB]
  have HF := Lib.hid hf
  have H := Lib.hid h
  have k0 : (x.kind == 0) = false := by simp [hk]
  have k1 : (x.kind == 1) = false := by simp [hk]
  have k2 : (x.kind == 2) = false := by simp [hk]
  have k3 : (x.kind == 3) = false := by simp [hk]
  have k4 : (x.kind == 4) = false := by simp [hk]
  have k5 : (x.kind == 5) = true := by simp [hk]
  clear hf hk h
  go_enter Tryz.func54, Tryz.ntmps54
  go_wp2_with fail
  refine (r06_Rows q x.cols x.rows A B c e _ S S (H.out.strs.keep ((((Ext.refl w).alloc _).alloc _).kept _)) (H.out.rows_.keep ((((Ext.refl w).alloc _).alloc _).kept _))).mono ?_
  rintro e1 w1 ⟨rfl, hx1⟩
  obtain ⟨hc1, hf1⟩ := bcell hx1
  have hz1 := hx1.size
  simp at hc1 hf1 hz1
  have hz2 : w.heap.size < w1.heap.size := by omega
  have hz3 : w.heap.size + 1 < w1.heap.size := by omega
  have HX := Lib.hid hx1
  cases ht : tableR x.cols x.rows
  · have HT := Lib.hid ht
    clear ht hx1
    go_wp2
    go_ret
    exact ⟨by rw [HF.out, HT.out]; rfl, Ext.trans ((((Ext.refl w).alloc _).alloc _)) HX.out⟩
  · have HT := Lib.hid ht
    clear ht hx1
    go_wp2_with fail
    have HY := Lib.hid (H.out.keep ((Ext.trans (((Ext.refl w).alloc _).alloc _) HX.out).kept S))
    refine (r06_Equal q x ⟨x.kind, ⟨#[]⟩, 0, 0, 0, x.cols, x.rows⟩ A B A B c e c e _ S S HY.out (RV.mk (Nat.zero_le _) HY.out.strs HY.out.rows_)).mono ?_
    rintro e1 w2 ⟨rfl, hx2⟩
    have HX2 := Lib.hid hx2
    clear hx2
    go_wp2
    go_ret
    exact ⟨by rw [HF.out, HT.out, Bool.true_and]; rfl, Ext.trans (((Ext.refl w).alloc _).alloc _) (Ext.trans HX.out HX2.out)⟩

theorem r06_Right (q : Nat) (x : Val) (A B : Option Addr) (c e : Nat) (w : World) (S : Nat → Prop) (h : RV w S q x A B) : Calls Tryz.prog 54 #[(.agg #[.int .i64 x.kind, .string x.s, .int .i64 x.dn, .int .i64 x.ds, .int .i64 x.n, .slice A x.cols.length c, .slice B x.rows.length e])] w (RetB w (rightB x)) := by
  by_cases hk : x.kind = 5
  · exact r06_Right_5 q x A B c e w S h hk
  · have := r06_Right_flat q x A B c e w S h hk
    rwa [show flatB x = rightB x by simp [rightB, hk]] at this
end Go.Proofs.YtcmmkeiiapbgcaaGreatDoor
/- The reference's Value, is, Kind and Right of lookup tables. Conditions: the arguments read as data. -/
namespace Go.Proofs.YtcmmkeiiapbgcaaGreatDoor
open Go Go.RowKit

set_option maxRecDepth 100000 in
set_option maxHeartbeats 400000 in
theorem r09_Value (t : Look) (x : Val) (hx : x = tabV t.cols t.rows) (A B : Option Addr) (c e : Nat) (w : World) : Calls Tryz.prog 18 #[(.agg #[.string t.name, .slice A t.cols.length c, .slice B t.rows.length e])] w (fun r w' => r = .returned (.agg #[.int .i64 x.kind, .string x.s, .int .i64 x.dn, .int .i64 x.ds, .int .i64 x.n, .slice A x.cols.length c, .slice B x.rows.length e]) ∧ Ext w w') := by
  subst hx
  simp only [tabV]
  go_enter Tryz.func18, Tryz.ntmps18
  go_wp2
  refine bodyPost_ret (v := .agg #[.int .i64 5, .string ⟨#[]⟩, .int .i64 0, .int .i64 0, .int .i64 0, .slice A t.cols.length c, .slice B t.rows.length e]) (by simp [results, Tryz.results18, go_sem]) rfl ⟨rfl, ?_⟩
  exact ((Ext.refl w).alloc _).alloc _

set_option maxRecDepth 100000 in
set_option maxHeartbeats 400000 in
theorem r09_is (q : Nat) (x y : Val) (A B A' B' : Option Addr) (c e c' e' : Nat) (w : World) (S T : Nat → Prop) (hx : RV w S q x A B) (hy : RV w T q y A' B') :
    Calls Tryz.prog 49 #[(.agg #[.int .i64 x.kind, .string x.s, .int .i64 x.dn, .int .i64 x.ds, .int .i64 x.n, .slice A x.cols.length c, .slice B x.rows.length e]), (.agg #[.int .i64 y.kind, .string y.s, .int .i64 y.dn, .int .i64 y.ds, .int .i64 y.n, .slice A' y.cols.length c', .slice B' y.rows.length e'])] w (RetB w (isB x y)) := by
  have HX := Lib.hid hx
  have HY := Lib.hid hy
  clear hx hy
  go_enter Tryz.func49, Tryz.ntmps49
  go_wp2_with fail
  refine (r06_Equal q x y A B A' B' c e c' e' _ S T (HX.out.keep ((((Ext.refl w).alloc _).alloc _).kept _)) (HY.out.keep ((((Ext.refl w).alloc _).alloc _).kept _))).mono ?_
  rintro e1 w1 ⟨rfl, hx1⟩
  have HX1 := Lib.hid hx1
  have b0 : Blk w1 w.heap.size 33 #[.int .i64 x.kind, .string x.s, .int .i64 x.dn, .int .i64 x.ds, .int .i64 x.n, .slice A x.cols.length c, .slice B x.rows.length e] := ((Blk.new w 33 #[.int .i64 x.kind, .string x.s, .int .i64 x.dn, .int .i64 x.ds, .int .i64 x.n, .slice A x.cols.length c, .slice B x.rows.length e]).keep (Kept.alloc _ _ _)).keep (hx1.kept _)
  have r0 := b0.cell (i := 0) rfl
  clear b0 hx1
  by_cases hk : x.kind = 0
  · have k0 : (x.kind != 0) = false := by simp [hk]
    have HF := Lib.hid (show isB x y = false by simp [isB, hk])
    clear hk
    go_wp2
    go_ret
    exact ⟨by rw [HF.out]; rfl, (((Ext.refl w).alloc _).alloc _).trans HX1.out⟩
  · have k0 : (x.kind != 0) = true := by simp [hk]
    have HF := Lib.hid (show isB x y = decide (x = y) by simp [isB, hk])
    clear hk
    go_wp2
    go_ret
    exact ⟨by rw [HF.out]; rfl, (((Ext.refl w).alloc _).alloc _).trans HX1.out⟩

/-- The kind of a column's first cell that is not empty. -/
def kindS (c : Nat) : List (List Val) → Int
  | [] => 0
  | r :: rs => if (r.getD c Val.zero).kind = 0 then kindS c rs else (r.getD c Val.zero).kind
def kindAll (c : Nat) (kd : Int) (rows : List (List Val)) : Bool := rows.all fun r => decide ((r.getD c Val.zero).kind = 0) || decide ((r.getD c Val.zero).kind = kd)
theorem kindsFrom_all (c : Nat) (kd : Int) (h : kd ≠ 0) : ∀ rows : List (List Val), kindsFrom c rows kd = kindAll c kd rows
  | [] => rfl
  | r :: rs => by
    have ih := kindsFrom_all c kd h rs
    unfold kindsFrom kindAll
    simp only [List.all_cons]
    by_cases h0 : (r.getD c Val.zero).kind = 0
    · rw [if_pos h0, ih]
      simp only [h0]
      simp [kindAll]
    · rw [if_neg h0]
      by_cases h1 : kd = (r.getD c Val.zero).kind
      · rw [if_neg (by intro hh; exact hh.2 h1), ← h1, ih]
        simp [kindAll]
      · rw [if_pos ⟨h, h1⟩, decide_eq_false h0, decide_eq_false (fun e => h1 e.symm)]
        rfl
theorem kindsFrom_zero (c : Nat) : ∀ rows : List (List Val), kindsFrom c rows 0 = kindAll c (kindS c rows) rows
  | [] => rfl
  | r :: rs => by
    have ih := kindsFrom_zero c rs
    unfold kindsFrom kindS
    by_cases h0 : (r.getD c Val.zero).kind = 0
    · rw [if_pos h0, if_pos h0, ih]
      unfold kindAll
      simp only [List.all_cons, h0]
      simp
    · rw [if_neg h0, if_neg h0, if_neg (by intro hh; exact hh.1 rfl), kindsFrom_all c _ h0]
      unfold kindAll
      simp only [List.all_cons]
      simp

set_option maxRecDepth 100000 in
set_option maxHeartbeats 1000000 in
theorem r09_Kind (q : Nat) (t : Look) (m : Nat) (A B : Option Addr) (c e : Nat) (w : World) (S : Nat → Prop) (h : RL w S q t A B) (hm : ∀ (i : Nat) (hi : i < t.rows.length), m < t.rows[i].length) :
    Calls Tryz.prog 55 #[(.agg #[.string t.name, .slice A t.cols.length c, .slice B t.rows.length e]), .int .i64 (m : Int)] w (RetI w (kindS m t.rows)) := by
  have hn := h.2.2.len
  have HB := Lib.hid (h.2.2.keep (Kept.alloc _ w (.cells #[.string t.name, .slice A t.cols.length c, .slice B t.rows.length e] 28)))
  clear h
  go_enter Tryz.func55, Tryz.ntmps55
  go_wp2
  go_loop [5] (fun i => ∃ k : Nat, k ≤ t.rows.length ∧ i = .int .i64 k ∧ kindS m (t.rows.drop k) = kindS m t.rows) (fun i => t.rows.length - (intOf i).toNat)
  case atStart => exact ⟨0, Nat.zero_le _, rfl, rfl⟩
  case round =>
    obtain ⟨k, hk, rfl, hkd⟩ := hrel
    have HKD := Lib.hid hkd
    clear hkd
    by_cases hlt : k < t.rows.length
    · obtain ⟨b1, o1, A2, c2, rfl, z1, p0, hcr, hrow⟩ := HB.out.at_ hlt
      have hkr := hm k hlt
      obtain ⟨b2, o2, A5, c5, B5, e5, rfl, z2, ⟨q0, -, -, -, -, -, -⟩, -, -⟩ := hrow.at_ hkr
      have hrl := hrow.len
      clear hrow
      have HDR := Lib.hid (show kindS m (t.rows.drop k) = if t.rows[k][m].kind = 0 then kindS m (t.rows.drop (k + 1)) else t.rows[k][m].kind by
        rw [List.drop_eq_getElem_cons hlt, kindS, getD_of _ _ _ hkr])
      by_cases hz : t.rows[k][m].kind = 0
      · have hz' : (t.rows[k][m].kind != 0) = false := by simp [hz]
        have HK := Lib.hid (show kindS m (t.rows.drop (k + 1)) = kindS m t.rows by rw [← HKD.out, HDR.out, if_pos hz])
        clear hz
        go_wp2
        go_round
        case rel => exact ⟨k + 1, by omega, by go_num, HK.out⟩
        case measure => simp [intOf]; omega
      · have hz' : (t.rows[k][m].kind != 0) = true := by simp [hz]
        have HK := Lib.hid (show t.rows[k][m].kind = kindS m t.rows by rw [← HKD.out, HDR.out, if_neg hz])
        clear hz
        go_wp2
        go_ret
        exact ⟨by rw [HK.out]; rfl, (Ext.refl w).alloc _⟩
    · have HK := Lib.hid (show kindS m t.rows = 0 by rw [← HKD.out, List.drop_eq_nil_of_le (by omega)]; rfl)
      go_wp2
      go_ret
      exact ⟨by rw [HK.out]; rfl, (Ext.refl w).alloc _⟩

theorem lookR_eq (t : Look) : lookR t = (nameB t.name && tableR t.cols t.rows && decide (t.cols ≠ []) && (List.range t.cols.length).all fun c => kindAll c (kindS c t.rows) t.rows) := by
  unfold lookR
  have : (fun c => kindsFrom c t.rows 0) = fun c => kindAll c (kindS c t.rows) t.rows := funext fun c => kindsFrom_zero c _
  rw [this]
  cases nameB t.name <;> cases tableR t.cols t.rows <;> cases decide (t.cols ≠ []) <;> rfl

set_option maxRecDepth 100000 in
set_option maxHeartbeats 2000000 in
theorem r09_Right (q : Nat) (t : Look) (A B : Option Addr) (c e : Nat) (w : World) (S : Nat → Prop) (h : RL w S q t A B) :
    Calls Tryz.prog 17 #[(.agg #[.string t.name, .slice A t.cols.length c, .slice B t.rows.length e])] w (RetB w (lookR t)) := by
  have hcl := h.2.1.2.1
  have hn := h.2.2.len
  have hns := h.1
  have HL := Lib.hid (h.keep (Kept.alloc _ w (.cells #[.string t.name, .slice A t.cols.length c, .slice B t.rows.length e] 28)))
  have HE := Lib.hid (lookR_eq t)
  clear h
  go_enter Tryz.func17, Tryz.ntmps17
  go_wp2_with fail
  refine (r06_Name t.name hns _).mono ?_
  rintro e1 w1 ⟨rfl, rfl⟩
  go_wp2_with fail
  refine (r09_Value t _ rfl A B c e _).mono ?_
  rintro e1 w1 ⟨rfl, hx1⟩
  have HX1 := Lib.hid (((Ext.refl w).alloc _).trans hx1)
  have HL1 := Lib.hid (HL.out.keep (hx1.kept _))
  have HB1 := Lib.hid ((Blk.new w 28 #[.string t.name, .slice A t.cols.length c, .slice B t.rows.length e]).keep (hx1.kept _))
  clear hx1
  go_wp2_with fail
  refine (r06_Right q (tabV t.cols t.rows) A B c e _ S HL1.out.val).mono ?_
  rintro e1 w2 ⟨rfl, hx2⟩
  rw [rightB_tab]
  have HX2 := Lib.hid (HX1.out.trans hx2)
  have HL2 := Lib.hid (HL1.out.keep (hx2.kept _))
  have HB2 := Lib.hid (HB1.out.keep (hx2.kept _))
  have k1 := HB2.out.cell (i := 1) rfl
  clear hx2
  cases hnm : nameB t.name
  · have HF := Lib.hid (show lookR t = false by rw [HE.out, hnm]; rfl)
    clear hnm
    go_wp2
    go_ret
    exact ⟨by rw [HF.out]; rfl, HX2.out⟩
  cases htb : tableR t.cols t.rows
  · have HF := Lib.hid (show lookR t = false by rw [HE.out, htb]; simp)
    clear hnm htb
    go_wp2
    go_ret
    exact ⟨by rw [HF.out]; rfl, HX2.out⟩
  by_cases hc0 : t.cols = []
  · have HF := Lib.hid (show lookR t = false by rw [HE.out, hc0]; simp)
    have hl0 : ((t.cols.length : Int) == 0) = true := by simp [hc0]
    clear hnm htb hc0
    go_wp2
    go_ret
    exact ⟨by rw [HF.out]; rfl, HX2.out⟩
  have hl0 : ((t.cols.length : Int) == 0) = false := by
    have : t.cols.length ≠ 0 := fun h => hc0 (List.eq_nil_of_length_eq_zero h)
    simp; exact hc0
  have HF := Lib.hid (show lookR t = (List.range t.cols.length).all fun c => kindAll c (kindS c t.rows) t.rows by rw [HE.out, hnm, htb]; simp [hc0])
  have HTB := Lib.hid htb
  clear hnm htb hc0
  go_wp2
  clear k1
  go_loopw [5] (fun i wr => ∃ k : Nat, k ≤ t.cols.length ∧ i = .int .i64 k ∧ Ext w2 wr ∧ ∀ j, j < k → kindAll j (kindS j t.rows) t.rows = true) (fun i _ => t.cols.length - (intOf i).toNat)
  case atStart => exact ⟨0, Nat.zero_le _, rfl, Ext.refl _, by intros; omega⟩
  case round =>
    obtain ⟨k, hk, rfl, hext, hall⟩ := hrel
    have HA := Lib.hid hall
    have HEX := Lib.hid hext
    have hb3 := HB2.out.keep (hext.kept _)
    have k0 := hb3.cell (i := 0) rfl
    have k1 := hb3.cell (i := 1) rfl
    have k2 := hb3.cell (i := 2) rfl
    have HB3 := Lib.hid hb3
    have HL3 := Lib.hid (HL2.out.keep (hext.kept _))
    clear hall hb3 hext
    by_cases hlt : k < t.cols.length
    · go_wp2_with fail
      refine (r09_Kind q t k A B c e _ S HL3.out (fun i hi => by rw [tableR_row HTB.out hi]; exact hlt)).mono ?_
      rintro e1 w3 ⟨rfl, hx3⟩
      have HX3 := Lib.hid hx3
      have hb4 := HB3.out.keep (hx3.kept _)
      have HL4 := Lib.hid (HL3.out.keep (hx3.kept _))
      clear k0 k1 k2 hx3
      have k2 := hb4.cell (i := 2) rfl
      clear hb4
      obtain ⟨kd, hkd⟩ : ∃ kd, kd = kindS k t.rows := ⟨_, rfl⟩
      have HKD := Lib.hid hkd
      rw [← hkd]
      clear hkd
      go_wp2
      go_loop [7] (fun i => ∃ j : Nat, j ≤ t.rows.length ∧ i = .int .i64 j ∧ ∀ (n : Nat) (h : n < t.rows.length), n < j → (decide ((t.rows[n].getD k Val.zero).kind = 0) || decide ((t.rows[n].getD k Val.zero).kind = kd)) = true) (fun i => t.rows.length - (intOf i).toNat)
      case atStart => exact ⟨0, Nat.zero_le _, rfl, by intros; omega⟩
      case round =>
        obtain ⟨j, hj, rfl, halli⟩ := hrel
        have HAI := Lib.hid halli
        clear halli
        by_cases hltj : j < t.rows.length
        · obtain ⟨b1, o1, A2, c2, rfl, z1, p0, hcr, hrow⟩ := HL4.out.2.2.at_ hltj
          have hkr : k < t.rows[j].length := by rw [tableR_row HTB.out hltj]; exact hlt
          obtain ⟨b2, o2, A5, c5, B5, e5, rfl, z2, ⟨q0, -, -, -, -, -, -⟩, -, -⟩ := hrow.at_ hkr
          have hrl := hrow.len
          clear hrow
          have HGD := Lib.hid (getD_of t.rows[j] k Val.zero hkr)
          by_cases hz : t.rows[j][k].kind = 0
          · have hz' : (t.rows[j][k].kind != 0) = false := by simp [hz]
            have HZ := Lib.hid (show (decide ((t.rows[j].getD k Val.zero).kind = 0) || decide ((t.rows[j].getD k Val.zero).kind = kd)) = true by rw [HGD.out, decide_eq_true hz]; rfl)
            clear hz
            go_wp2
            go_round
            case rel =>
              refine ⟨j + 1, by omega, by go_num, fun n h hnj => ?_⟩
              by_cases hjk : n = j
              · subst hjk; exact HZ.out
              · exact HAI.out n h (by omega)
            case measure => simp [intOf]; omega
          · have hz' : (t.rows[j][k].kind != 0) = true := by simp [hz]
            by_cases hy : t.rows[j][k].kind = kd
            · have hy' : (t.rows[j][k].kind != kd) = false := by simp [hy]
              have HZ := Lib.hid (show (decide ((t.rows[j].getD k Val.zero).kind = 0) || decide ((t.rows[j].getD k Val.zero).kind = kd)) = true by rw [HGD.out, decide_eq_true hy]; simp)
              clear hz hy
              go_wp2
              go_round
              case rel =>
                refine ⟨j + 1, by omega, by go_num, fun n h hnj => ?_⟩
                by_cases hjk : n = j
                · subst hjk; exact HZ.out
                · exact HAI.out n h (by omega)
              case measure => simp [intOf]; omega
            · have hy' : (t.rows[j][k].kind != kd) = true := by simp [hy]
              have HFF := Lib.hid (show lookR t = false by
                rw [HF.out]
                refine all_not (List.range t.cols.length) _ k (by simpa using hlt) ?_
                rw [List.getElem_range]
                refine all_not t.rows _ j hltj ?_
                rw [HGD.out, ← HKD.out, decide_eq_false hz, decide_eq_false hy]
                rfl)
              clear hz hy
              go_wp2
              go_ret
              exact ⟨by rw [HFF.out]; rfl, HX2.out.trans (HEX.out.trans HX3.out)⟩
        · have HK := Lib.hid (show kindAll k (kindS k t.rows) t.rows = true from all_take _ _ fun n hn => by rw [← HKD.out]; exact HAI.out n hn (by omega))
          go_wp2
          go_roundw
          case rel =>
            refine ⟨k + 1, by omega, by go_num, HEX.out.trans HX3.out, fun n hn => ?_⟩
            by_cases hjk : n = k
            · subst hjk; exact HK.out
            · exact HA.out n (by omega)
          case measure => simp [intOf]; omega
    · have HFF := Lib.hid (show lookR t = true by
        rw [HF.out]
        exact all_take _ _ fun j hj => by rw [List.getElem_range]; exact HA.out j (by simp at hj; omega))
      go_wp2
      go_ret
      exact ⟨by rw [HFF.out]; rfl, HX2.out.trans HEX.out⟩
end Go.Proofs.YtcmmkeiiapbgcaaGreatDoor
/- The reference's Copy of lookup tables; what Odd keeps in memory. Conditions: the argument reads as data. -/
namespace Go.Proofs.YtcmmkeiiapbgcaaGreatDoor
open Go Go.RowKit

theorem Rows.up {w : World} {S : Nat → Prop} {d d' : Nat} {B : Option Addr} {l : List (List Val)} (h : Rows w S d B l) (hd : d ≤ d') : Rows w S d' B l :=
  h.imp fun y cs ⟨A, c, B, e, h1, h2, h3⟩ => ⟨A, c, B, e, h1, ⟨by omega, h2.2⟩, h3.up (by omega)⟩
theorem RL.up {w : World} {S : Nat → Prop} {d d' : Nat} {t : Look} {A B : Option Addr} (h : RL w S d t A B) (hd : d ≤ d') : RL w S d' t A B := ⟨h.1, h.2.1, h.2.2.up hd⟩
def RetCpL (w : World) (d : Nat) (t : Look) (e : Ending) (w' : World) : Prop := ∃ (Ac : Option Addr) (cc : Nat) (Ar : Option Addr) (cr : Nat), e = .returned (.agg #[.string t.name, .slice Ac t.cols.length cc, .slice Ar t.rows.length cr]) ∧ OwnSs w' w.heap.size Ac cc t.cols ∧ OwnRR w' w.heap.size (fun b => ob Ac = some b) d Ar cr t.rows ∧ (∀ b, ob Ac = some b → ob Ar ≠ some b) ∧ Ext w w'
def ZL : Array Value := #[.string ⟨#[]⟩, .slice none 0 0, .slice none 0 0]
set_option maxRecDepth 100000 in
set_option maxHeartbeats 1000000 in
theorem r09_Copy (d : Nat) (t : Look) (A B : Option Addr) (c e : Nat) (w : World) (S : Nat → Prop) (h : RL w S d t A B) : Calls Tryz.prog 43 #[(.agg #[.string t.name, .slice A t.cols.length c, .slice B t.rows.length e])] w (RetCpL w d t) := by
  have H := Lib.hid h
  clear h
  obtain ⟨x, hx⟩ : ∃ x, x = tabV t.cols t.rows := ⟨_, rfl⟩
  have HXE := Lib.hid hx
  clear hx
  obtain ⟨W0, hW0⟩ : ∃ W0, W0 = ((w.alloc (.cells #[.string t.name, .slice A t.cols.length c, .slice B t.rows.length e] 28)).alloc (.cells #[.string ⟨#[]⟩, .slice none 0 0, .slice none 0 0] 28)) := ⟨_, rfl⟩
  have HW0 := Lib.hid hW0
  have hx0 : Ext w W0 := by rw [hW0]; exact ((Ext.refl w).alloc _).alloc _
  have b0 : Blk W0 w.heap.size 28 #[.string t.name, .slice A t.cols.length c, .slice B t.rows.length e] := by rw [hW0]; exact (Blk.new _ _ _).keep (Kept.alloc _ _ _)
  have b1 : Blk W0 (w.heap.size + 1) 28 #[.string ⟨#[]⟩, .slice none 0 0, .slice none 0 0] := by
    rw [hW0]
    have := Blk.new (w.alloc (.cells #[.string t.name, .slice A t.cols.length c, .slice B t.rows.length e] 28)) 28 #[.string ⟨#[]⟩, .slice none 0 0, .slice none 0 0]
    simpa using this
  have hs0 : W0.heap.size = w.heap.size + 2 := by rw [hW0]; simp
  have HX0 := Lib.hid hx0
  have HB0 := Lib.hid b0
  have HB1 := Lib.hid b1
  have HS0 := Lib.hid hs0
  clear hW0 hx0 b0 b1 hs0
  go_enter Tryz.func43, Tryz.ntmps43
  go_wp2_with fail
  rw [← HW0.out]
  refine (r09_Value t x HXE.out A B c e W0).mono ?_
  rintro e1 w1 ⟨rfl, hx1⟩
  have HX1 := Lib.hid hx1
  clear hx1
  go_wp2_with fail
  have hv := (H.out.keep ((HX0.out.trans HX1.out).kept S)).val
  rw [← HXE.out] at hv
  refine (r06_Copy d x A B c e w1 S hv).mono ?_
  rintro e2 w2 ⟨Ac, cc, Ar, cr, rfl, hoc, hor, hsep, hx2⟩
  have hx12 := HX1.out.trans hx2
  have HB0b := Lib.hid (HB0.out.keep (hx12.kept _))
  have HB1b := Lib.hid (HB1.out.keep (hx12.kept _))
  have l0 := HB0b.out.cell (i := 0) rfl
  have r0 := HB1b.out.cell (i := 0) rfl
  have r1 := HB1b.out.cell (i := 1) rfl
  have r2 := HB1b.out.cell (i := 2) rfl
  have lz := HB0b.out.lt
  have rz := HB1b.out.lt
  have rf := HB1b.out.frozen
  have hz1 : w.heap.size + 2 ≤ w1.heap.size := by have := HX1.out.size; have := HS0.out; omega
  have hcs : x.cols = t.cols := by rw [HXE.out]; rfl
  have hrs : x.rows = t.rows := by rw [HXE.out]; rfl
  rw [hcs] at hoc
  rw [hrs] at hor
  rw [hcs, hrs]
  have HOC := Lib.hid hoc
  have HOR := Lib.hid hor
  have HXF := Lib.hid (HX0.out.trans hx12)
  clear hoc hor hx2 hx12 hv hcs hrs
  have hza : w.heap.size + 1 < w2.heap.size + 1 := by omega
  have hzb : w.heap.size < w2.heap.size + 1 := by omega
  have hne : w.heap.size + 1 ≠ w2.heap.size := by omega
  have hne2 : w.heap.size ≠ w2.heap.size := by omega
  go_wp2
  refine bodyPost_ret (v := (.agg #[.string t.name, .slice Ac t.cols.length cc, .slice Ar t.rows.length cr])) (by simp [results, Tryz.results43, go_sem, r0, r1, r2, rz]) rfl ?_
  refine ⟨Ac, cc, Ar, cr, rfl, ⟨?_, HOC.out.2⟩, ?_, hsep, ?_⟩
  · refine Own.lower (HOC.out.1.keep ?_) (show w.heap.size ≤ w1.heap.size by omega)
    have hb : ∀ b, ob Ac = some b → w1.heap.size ≤ b := fun b h => (HOC.out.1.blk h).1
    refine Kept.trans ?_ (Kept.alloc _ _ _)
    iterate 3 with_reducible refine Kept.set2 ?_ (fun h => by have := hb _ h; omega)
    with_reducible exact Kept.refl _ _
  · refine OwnRR.lower (HOR.out.keep ?_ fun b hb hb' => hsep b hb' hb) (show w.heap.size ≤ w1.heap.size by omega)
    refine Kept.trans ?_ (Kept.alloc _ _ _)
    iterate 3 with_reducible refine Kept.set2 ?_ (fun h => by have := h.1; omega)
    with_reducible exact Kept.refl _ _
  · refine Ext.alloc ?_ _
    iterate 3 with_reducible refine Ext.set2 ?_ (by omega) _
    with_reducible exact HXF.out
end Go.Proofs.YtcmmkeiiapbgcaaGreatDoor
/- What Odd keeps in memory: rows of the call's own, a row or a cell being replaced. No conditions. -/
namespace Go.Proofs.YtcmmkeiiapbgcaaGreatDoor
open Go Go.RowKit

def zeroRow (n : Nat) : Array Value := madeCells #[.int .i64 0, .string ⟨#[]⟩, .int .i64 0, .int .i64 0, .int .i64 0, .slice none 0 0, .slice none 0 0] (n * 7)
theorem run_mkV (n : Nat) (hn : n ≤ 1000000) : ∀ w : World, (Instr.makeSlice 45 (.int .i64 (n : Int)) (.int .i64 (n : Int))).run Tryz.prog w = .ok (.slice (some ⟨w.heap.size, 0, none⟩) n n) (w.alloc (.cells (zeroRow n) 33)) := by
  intro w
  obtain ⟨i0, h1, h2, h3, h4⟩ := info_parts infoV
  have hr := run_make (P := Tryz.prog) w 45 33 i0 _ Tryz.underlying45 h1 h2 .i64 .i64 n n (by omega) (by omega) (by rw [h4]; omega) (by omega)
  rw [h3, Int.toNat_natCast] at hr
  exact hr
theorem zeroRow_toList (n : Nat) : (zeroRow n).toList = (List.replicate n Val.zero).flatMap fun y => vcells y none 0 none 0 := by
  apply List.ext_getElem?
  intro i
  have hv : ∀ m : Nat, ((List.replicate m Val.zero).flatMap fun y => vcells y none 0 none 0).length = m * 7 := by
    intro m
    induction m with
    | zero => rfl
    | succ m ih => simp [List.replicate_succ, vcells]; omega
  have key : ∀ (m i : Nat), i < m * 7 → ((List.replicate m Val.zero).flatMap fun y => vcells y none 0 none 0)[i]? = (vcells Val.zero none 0 none 0)[i % 7]? := by
    intro m
    induction m with
    | zero => intro i hi; omega
    | succ m ih =>
      intro i hi
      simp only [List.replicate_succ, List.flatMap_cons]
      rcases Nat.lt_or_ge i 7 with h | h
      · rw [List.getElem?_append_left (by simpa [vcells] using h), Nat.mod_eq_of_lt h]
      · rw [List.getElem?_append_right (by simpa [vcells] using h)]
        have h7 : (vcells Val.zero none 0 none 0).length = 7 := rfl
        rw [h7, ih (i - 7) (by omega)]
        congr 1
        omega
  rcases Nat.lt_or_ge i (n * 7) with h | h
  · rw [key n i h]
    have : i % 7 < 7 := Nat.mod_lt _ (by decide)
    simp only [zeroRow, madeCells, Array.toList_map, List.getElem?_map, Array.toList_range, List.getElem?_range h, Option.map_some]
    generalize i % 7 = j at this ⊢
    match j, this with
    | 0, _ => rfl
    | 1, _ => rfl
    | 2, _ => rfl
    | 3, _ => rfl
    | 4, _ => rfl
    | 5, _ => rfl
    | 6, _ => rfl
    | j + 7, h => omega
  · rw [List.getElem?_eq_none (by simpa [zeroRow, madeCells] using h), List.getElem?_eq_none (by rw [hv]; exact h)]
theorem OwnVs.zeros (w : World) (n d : Nat) (hd : 0 < d) (hn : n ≤ 1000000) : OwnVs (w.alloc (.cells (zeroRow n) 33)) w.heap.size (fun b => w.heap.size ≤ b) d (some ⟨w.heap.size, 0, none⟩) n (List.replicate n Val.zero) := by
  have hl : (zeroRow n).size = n * 7 := by simp [zeroRow, madeCells]
  refine ⟨(zeroRow n).toList, ⟨by simp [hl], .inr ⟨w.heap.size, n, zeroRow n, by simp, Nat.le_refl _, heap_alloc_new w _, by simp, by unfold maxLen; omega, hl, ?_⟩⟩, ?_⟩
  · rw [List.length_replicate]; exact List.take_of_length_le (by simp [hl])
  · rw [zeroRow_toList]
    exact VL.flat hd _ fun y hy => by rw [List.mem_replicate] at hy; rw [hy.2]; exact ⟨rfl, rfl, Nat.zero_le _⟩

section
variable {w w' : World} {base q c k : Nat} {av S : Nat → Prop} {A : Option Addr} {l : List (List Val)}
/-- Row k; its cells may be written. -/
theorem OwnRR.at_ (h : OwnRR w base av q A c l) (hk : k < l.length) (hl : l.length ≤ 4294967296) (hr : ∀ r ∈ l, r.length ≤ 4294967296) : ∃ (hs : List Value) (B : Option Addr) (e : Nat) (X : Nat → Prop), Own w base 45 1 A l.length c hs ∧ hs[k]? = some (.slice B l[k].length e) ∧ OwnVs w base X q B e l[k] ∧ (∀ b, X b → base ≤ b ∧ ob A ≠ some b) ∧ (∀ b, ob B = some b → ob A ≠ some b) ∧
    ∀ (w' : World) (r' : List Val), Kept (fun b => ob B ≠ some b) w w' → r'.length = l[k].length → Row w' (fun b => base ≤ b) q B r' → Rows w' (fun b => base ≤ b) q A (l.set k r') := by
  obtain ⟨hs, cut, h1, h2, h3, h4, h5⟩ := h
  obtain ⟨B, e, g1, g2, g3⟩ := h5 k l[k] (List.getElem?_eq_getElem hk)
  have hc0 : ∀ i, base ≤ cut i := fun i => Nat.le_trans h3 (h2 0 i (Nat.zero_le _))
  refine ⟨hs, B, e, _, h1, g1, g2.shift (base2 := base) (fun b hb => Nat.le_trans (hc0 k) (g2.blk hb).1) (fun b _ hb => hb), fun b hb => ⟨Nat.le_trans (hc0 k) hb.1, hb.2.2.1⟩, fun b hb => (g3 b hb).2.1, fun w' r' hkp hl' hrow => ?_⟩
  have hcap : l[k].length ≤ e := by obtain ⟨xs, ho, _⟩ := g2; exact ho.cap
  refine ⟨by rw [List.length_set]; exact hl, hs, (h1.rd.keep (hkp.mono fun b _ hb hb' => (g3 b hb').2.1 hb)).mono (fun b _ hb => (h1.blk hb).1), by rw [List.length_set]; simpa using h1.len, fun i r hi => ?_⟩
  by_cases hik : k = i
  · subst hik
    rw [List.getElem?_set_self hk] at hi
    injection hi with hi
    subst hi
    exact ⟨B, e, by rw [hl']; exact g1, by rw [hl']; exact hcap, hrow⟩
  · rw [List.getElem?_set_ne hik] at hi
    obtain ⟨Bi, ei, f1, f2, f3⟩ := h5 i r hi
    have hci : r.length ≤ ei := by obtain ⟨xs, ho, _⟩ := f2; exact ho.cap
    refine ⟨Bi, ei, f1, hci, (f2.keep (hkp.mono fun b _ hb hb' => ?_)).row (hr r (List.mem_of_getElem? hi)) (fun b hb => Nat.le_trans (hc0 i) (f2.blk hb).1) (fun b hb => Nat.le_trans (hc0 i) hb.1)⟩
    have k1 := (g2.blk hb').1
    have k2 := (g3 b hb').1
    have i12 : cut i ≤ b ∧ b < cut (i + 1) := by
      rcases hb with hb | hb
      · exact ⟨(f2.blk hb).1, (f3 b hb).1⟩
      · exact ⟨hb.1, hb.2.1⟩
    rcases Nat.lt_or_ge i k with hlt | hge
    · have := h2 (i + 1) k hlt; omega
    · have := h2 (k + 1) i (by omega); omega
/-- The first row's place takes another row. -/
theorem OwnRR.setHead (h : OwnRR w base av q A c l) {g : Nat} (hA : A = some ⟨g, 0, none⟩) (h0 : 0 < l.length) (hl : l.length ≤ 4294967296) (hr : ∀ r ∈ l, r.length ≤ 4294967296) {B' : Option Addr} {e' : Nat} {r' : List Val} (hre : r'.length ≤ e') (hrow : Row w (fun b => base ≤ b ∧ ob A ≠ some b) q B' r') :
    Rows (w.setCell ⟨g, 0, none⟩ (.slice B' r'.length e')) (fun b => base ≤ b) q A (l.set 0 r') := by
  obtain ⟨hs, cut, h1, h2, h3, h4, h5⟩ := h
  have hc0 : ∀ i, base ≤ cut i := fun i => Nat.le_trans h3 (h2 0 i (Nat.zero_le _))
  have hoA : ob A = some g := by rw [hA]; rfl
  have hkp : Kept (fun b => ob A ≠ some b) w (w.setCell ⟨g, 0, none⟩ (.slice B' r'.length e')) := Kept.of_set (fun h => h hoA)
  have hlen : hs.length = l.length := by simpa using h1.len
  refine ⟨by rw [List.length_set]; exact hl, hs.set 0 (.slice B' r'.length e'), ?_, by simpa using hlen, fun i r hi => ?_⟩
  · obtain ⟨b, o, e1, e2, e3, e4⟩ := h1.rd.some_ (by intro h; rw [h] at hlen; simp at hlen; omega)
    rw [hA] at e1
    injection e1 with e1
    injection e1 with e1 e1'
    subst e1
    subst e1'
    refine .inr ⟨g, 0, hA, (h1.blk hoA).1, by simpa [World.setCell] using e3, fun j u hj => ?_⟩
    rw [List.getElem?_set] at hj
    by_cases hj0 : 0 = j
    · subst hj0
      rw [if_pos rfl, if_pos (by omega)] at hj
      injection hj with hj
      subst hj
      cases hh : hs[0]? with
      | none => rw [List.getElem?_eq_none_iff] at hh; omega
      | some u0 => exact World.cell?_setCell_same _ _ _ (e4 0 u0 hh)
    · rw [if_neg hj0] at hj
      rw [World.cell?_setCell_other _ _ _ _ (by intro e; injection e with _ e; omega)]
      exact e4 j u hj
  · by_cases hik : 0 = i
    · subst hik
      rw [List.getElem?_set_self h0] at hi
      injection hi with hi
      subst hi
      exact ⟨B', e', by rw [List.getElem?_set_self (by omega)], hre, (hrow.keep (hkp.mono fun b _ hb => hb.2)).mono fun b _ hb => hb.1⟩
    · rw [List.getElem?_set_ne hik] at hi
      obtain ⟨Bi, ei, f1, f2, f3⟩ := h5 i r hi
      have hci : r.length ≤ ei := by obtain ⟨xs, ho, _⟩ := f2; exact ho.cap
      refine ⟨Bi, ei, by rw [List.getElem?_set_ne hik]; exact f1, hci, (f2.keep (hkp.mono fun b _ hb => ?_)).row (hr r (List.mem_of_getElem? hi)) (fun b hb => Nat.le_trans (hc0 i) (f2.blk hb).1) (fun b hb => Nat.le_trans (hc0 i) hb.1)⟩
      rcases hb with hb | hb
      · exact (f3 b hb).2.1
      · exact hb.2.2.1
theorem Rd.tail {xs : List Value} {g o n : Nat} (h : Rd w S (some ⟨g, o, none⟩) xs) : Rd w S (some ⟨g, o + n, none⟩) (xs.drop n) := by
  rcases h with h | ⟨b, o', h1, h2, h3, h4⟩
  · left; rw [h]; simp
  · injection h1 with h1
    injection h1 with h1 h1'
    subst h1
    subst h1'
    exact .inr ⟨g, o + n, rfl, h2, h3, fun j u hj => by rw [Nat.add_assoc]; exact h4 (n + j) u (by rw [List.getElem?_drop] at hj; exact hj)⟩
theorem Row.tail {r : List Val} {y : Val} {g o : Nat} (h : Row w S q (some ⟨g, o, none⟩) (y :: r)) : Row w S q (some ⟨g, o + 7, none⟩) r := by
  obtain ⟨h0, xs, h1, h2, h3⟩ := h
  simp at h0 h2
  refine ⟨by omega, xs.drop 7, h1.tail, by simp; omega, fun j z hj => ?_⟩
  have := h3 (j + 1) z (by simpa using hj)
  rw [List.drop_drop, show 7 + j * 7 = (j + 1) * 7 by omega]
  exact this
theorem Rows.tail {r : List Val} {g o : Nat} {l : List (List Val)} (h : Rows w S q (some ⟨g, o, none⟩) (r :: l)) : Rows w S q (some ⟨g, o + 1, none⟩) l := by
  obtain ⟨h0, hs, h1, h2, h3⟩ := h
  simp at h0 h2
  refine ⟨by omega, hs.drop 1, h1.tail, by simp; omega, fun j z hj => ?_⟩
  obtain ⟨B, e, g1, g2⟩ := h3 (j + 1) z (by simpa using hj)
  exact ⟨B, e, by rw [List.getElem?_drop, Nat.add_comm]; exact g1, g2⟩
theorem Row.nil : Row w S q A [] := ⟨by simp, [], Or.inl rfl, by simp, by simp⟩
theorem Rd.setc {xs : List Value} {g o : Nat} (h : Rd w S (some ⟨g, o, none⟩) xs) (i : Nat) (v : Value) : Rd (w.setCell ⟨g, o + i, none⟩ v) S (some ⟨g, o, none⟩) (xs.set i v) := by
  rcases h with h | ⟨b, o', h1, h2, h3, h4⟩
  · left; rw [h]; rfl
  · injection h1 with h1
    injection h1 with h1 h1'
    subst h1
    subst h1'
    refine .inr ⟨g, o, rfl, h2, by simpa [World.setCell] using h3, fun j u hj => ?_⟩
    rw [List.getElem?_set] at hj
    by_cases hij : i = j
    · subst hij
      rw [if_pos rfl] at hj
      by_cases hl : i < xs.length
      · rw [if_pos hl] at hj
        injection hj with hj
        subst hj
        exact World.cell?_setCell_same _ _ _ (h4 i _ (List.getElem?_eq_getElem hl))
      · rw [if_neg hl] at hj; cases hj
    · rw [if_neg hij] at hj
      rw [World.cell?_setCell_other _ _ _ _ (by intro e; injection e with _ e; omega)]
      exact h4 j u hj
theorem seg_ne (xs : List Value) (v : Value) {i j t : Nat} (h : i ≠ j) (ht : t < 7) : ((xs.set (j * 7 + t) v).drop (i * 7)).take 7 = (xs.drop (i * 7)).take 7 := by
  rw [List.drop_set]
  split
  · rfl
  · rw [List.take_set, List.set_eq_of_length_le (by simp; omega)]
theorem seg_eq (xs : List Value) (v : Value) (j t : Nat) : ((xs.set (j * 7 + t) v).drop (j * 7)).take 7 = ((xs.drop (j * 7)).take 7).set t v := by
  rw [List.drop_set, if_neg (by omega), List.take_set, Nat.add_sub_cancel_left]
theorem list7 {xs : List Value} (h : xs.length = 7) (a0 a1 a2 a3 a4 a5 a6 : Value) : ((((((xs.set 0 a0).set 1 a1).set 2 a2).set 3 a3).set 4 a4).set 5 a5).set 6 a6 = [a0, a1, a2, a3, a4, a5, a6] := by
  match xs, h with
  | [_, _, _, _, _, _, _], _ => rfl
/-- Seven cells of a row of the call's own are written. -/
theorem OwnVs.store7 {r : List Val} {X T : Nat → Prop} {g e : Nat} (h : OwnVs w base X q (some ⟨g, 0, none⟩) e r) {j : Nat} (hj : j < r.length) (hl : r.length ≤ 4294967296) {x : Val} {A1 B1 : Option Addr} {c1 e1 : Nat} (hq : 0 < q ∧ x.cols.length ≤ c1 ∧ x.rows.length ≤ e1) (hx : RV w (fun b => b ≠ g ∧ T b) (q - 1) x A1 B1) (hg : T g) (hXT : ∀ b, X b → T b)
    {w' : World} (hw : w' = ((((((w.setCell ⟨g, j * 7, none⟩ (.int .i64 x.kind)).setCell ⟨g, j * 7 + 1, none⟩ (.string x.s)).setCell ⟨g, j * 7 + 2, none⟩ (.int .i64 x.dn)).setCell ⟨g, j * 7 + 3, none⟩ (.int .i64 x.ds)).setCell ⟨g, j * 7 + 4, none⟩ (.int .i64 x.n)).setCell ⟨g, j * 7 + 5, none⟩ (.slice A1 x.cols.length c1)).setCell ⟨g, j * 7 + 6, none⟩ (.slice B1 x.rows.length e1)) :
    Row w' T q (some ⟨g, 0, none⟩) (r.set j x) ∧ Kept (fun b => b ≠ g) w w' := by
  have hk : Kept (fun b => b ≠ g) w w' := by
    rw [hw]
    iterate 7 refine Kept.set2 ?_ (by simp)
    exact Kept.refl _ _
  refine ⟨?_, hk⟩
  obtain ⟨xs, h1, h2⟩ := h
  have hlen : xs.length = r.length * 7 := h2.1
  have hrd := ((((((h1.rd.setc (j * 7) (.int .i64 x.kind)).setc (j * 7 + 1) (.string x.s)).setc (j * 7 + 2) (.int .i64 x.dn)).setc (j * 7 + 3) (.int .i64 x.ds)).setc (j * 7 + 4) (.int .i64 x.n)).setc (j * 7 + 5) (.slice A1 x.cols.length c1)).setc (j * 7 + 6) (.slice B1 x.rows.length e1)
  simp only [Nat.zero_add] at hrd
  rw [← hw] at hrd
  refine ⟨by rw [List.length_set]; exact hl, _, hrd.mono (fun b _ hb => by simp [ob] at hb; rw [← hb]; exact hg), by simp [hlen], fun i y hi => ?_⟩
  by_cases hij : j = i
  · subst hij
    rw [List.getElem?_set_self hj] at hi
    injection hi with hi
    subst hi
    have h7 : ((xs.drop (j * 7)).take 7).length = 7 := by simp; omega
    have e0 := seg_eq xs (.int .i64 x.kind) j 0
    rw [Nat.add_zero] at e0
    rw [seg_eq, seg_eq, seg_eq, seg_eq, seg_eq, seg_eq, e0, list7 h7]
    exact ⟨A1, c1, B1, e1, rfl, hq, (hx.keep (hk.mono fun b _ hb => hb.1)).mono fun b _ hb => hb.2⟩
  · rw [List.getElem?_set_ne hij] at hi
    have e0 := seg_ne xs (.int .i64 x.kind) (i := i) (j := j) (t := 0) (by omega) (by omega)
    rw [Nat.add_zero] at e0
    rw [seg_ne _ _ (by omega) (by omega), seg_ne _ _ (by omega) (by omega), seg_ne _ _ (by omega) (by omega), seg_ne _ _ (by omega) (by omega), seg_ne _ _ (by omega) (by omega), seg_ne _ _ (by omega) (by omega), e0]
    obtain ⟨A, c, B, e, f1, f2, f3⟩ := h2.2 i y hi
    exact ⟨A, c, B, e, f1, f2, (f3.keep (hk.mono fun b _ hb hb' => hb.1 (by rw [hb']; rfl))).mono fun b _ hb => hXT b hb.2⟩
end
end Go.Proofs.YtcmmkeiiapbgcaaGreatDoor
