/- Equality of texts, rows and values by the program's own functions (slices.Equal, slices.EqualFunc, equalRows, value.Equal): they answer whether the data are equal. No conditions but that the arguments read as data. -/
import Derived.Test.YtcmmkeiiapbgcaaGreatDoorEq
namespace Go.Proofs.YtcmmkeiiapbgcaaGreatDoor
open Go Go.RowKit

set_option maxRecDepth 100000 in
set_option maxHeartbeats 400000 in
theorem slices_Equal (A B : Option Addr) (c d : Nat) (x y : List ByteArray) (w : World) (S T : Nat → Prop) (hx : Strs w S A x) (hy : Strs w T B y) :
    Calls Tryz.prog 122 #[.slice A x.length c, .slice B y.length d] w (QuietB w (decide (x = y))) := by
  have hn := hx.2.1
  have hm := hy.2.1
  by_cases hl : x.length = y.length
  · have h1 : ((x.length : Int) != (y.length : Int)) = false := by simp [hl]
    have HL := Lib.hid hl
    clear hl
    go_enter Tryz.func122, Tryz.ntmps122
    go_wp2
    go_loopw [13] (fun i wr => ∃ k : Nat, k ≤ x.length ∧ i = .int .i64 k ∧ (∃ n, wr = w.drewN n) ∧ ∀ j (h : j < x.length) (h' : j < y.length), j < k → x[j] = y[j]) (fun i _ => x.length - (intOf i).toNat)
    case atStart => exact ⟨0, Nat.zero_le _, rfl, ⟨0, rfl⟩, by intros; omega⟩
    case round =>
      obtain ⟨k, hk, rfl, ⟨n, rfl⟩, hall⟩ := hrel
      have HA := Lib.hid hall
      clear hall
      by_cases hlt : k < x.length
      · have hky : k < y.length := by have := HL.out; omega
        obtain ⟨b1, o1, rfl, z1, c1⟩ := hx.at_ hlt
        obtain ⟨b2, o2, rfl, z2, c2⟩ := hy.at_ hky
        go_wp2
        go_quiet (fail)
        go_wp2
        · rename_i ht
          go_ret
          refine ⟨?_, n + _, World.drewN_drewN _ _ _⟩
          have : x ≠ y := by rintro rfl; simp at ht
          simp [this]
        · rename_i ht
          go_roundw
          case rel =>
            refine ⟨k + 1, by omega, by go_num, ⟨_, rfl⟩, fun j h h' hj => ?_⟩
            by_cases hjk : j = k
            · subst hjk
              simp only [Bool.not_eq_eq_eq_not, Bool.not_false, bytes_beq, decide_eq_true_eq] at ht
              exact ht
            · exact HA.out j h h' (by omega)
          case measure => simp [intOf]; omega
      · go_wp2
        go_ret
        refine ⟨?_, n, rfl⟩
        have : x = y := take_all_eq HL.out (fun j h h' => HA.out j h h' (by omega))
        simp [this]
  · have h1 : ((x.length : Int) != (y.length : Int)) = true := by rw [bne_iff_ne]; omega
    have h2 : x ≠ y := fun e => hl (by rw [e])
    have H2 := Lib.hid h2
    clear h2 hl
    go_enter Tryz.func122, Tryz.ntmps122
    go_wp2
    go_ret
    refine ⟨?_, 0, rfl⟩
    have := H2.out
    simp [this]

def PEq (d : Nat) : Prop := ∀ (x y : Val) (A B A' B' : Option Addr) (c e c' e' : Nat) (w : World) (S T : Nat → Prop), RV w S d x A B → RV w T d y A' B' →
  Calls Tryz.prog 89 #[(.agg #[.int .i64 x.kind, .string x.s, .int .i64 x.dn, .int .i64 x.ds, .int .i64 x.n, .slice A x.cols.length c, .slice B x.rows.length e]), (.agg #[.int .i64 y.kind, .string y.s, .int .i64 y.dn, .int .i64 y.ds, .int .i64 y.n, .slice A' y.cols.length c', .slice B' y.rows.length e'])] w (RetB w (decide (x = y)))

set_option maxRecDepth 100000 in
set_option maxHeartbeats 400000 in
theorem slices_EqualFunc (q : Nat) (ih : 0 < q → PEq (q - 1)) (A B : Option Addr) (c d : Nat) (x y : List Val) (w : World) (S T : Nat → Prop) (hx : Row w S q A x) (hy : Row w T q B y) :
    Calls Tryz.prog 147 #[.slice A x.length c, .slice B y.length d, .func (.func 89) #[] #[]] w (RetB w (decide (x = y))) := by
  have hn := hx.len
  have hm := hy.len
  by_cases hl : x.length = y.length
  · have h1 : ((x.length : Int) != (y.length : Int)) = false := by simp [hl]
    have HL := Lib.hid hl
    clear hl
    go_enter Tryz.func147, Tryz.ntmps147
    go_wp2
    go_loopw [17] (fun i wr => ∃ k : Nat, k ≤ x.length ∧ i = .int .i64 k ∧ Ext w wr ∧ ∀ j (h : j < x.length) (h' : j < y.length), j < k → x[j] = y[j]) (fun i _ => x.length - (intOf i).toNat)
    case atStart => exact ⟨0, Nat.zero_le _, rfl, Ext.refl _, by intros; omega⟩
    case round =>
      obtain ⟨k, hk, rfl, hext, hall⟩ := hrel
      have HA := Lib.hid hall
      clear hall
      by_cases hlt : k < x.length
      · have hky : k < y.length := by have := HL.out; omega
        obtain ⟨b1, o1, A1, c1, B1, e1, rfl, z1, ⟨p0, p1, p2, p3, p4, p5, p6⟩, ⟨hq, _, _⟩, hv1⟩ := (hx.keep (hext.kept S)).at_ hlt
        obtain ⟨b2, o2, A2, c2, B2, e2, rfl, z2, ⟨q0, q1, q2, q3, q4, q5, q6⟩, _, hv2⟩ := (hy.keep (hext.kept T)).at_ hky
        have HE := Lib.hid hext
        clear hext
        go_wp2_with fail
        refine (ih hq _ _ _ _ _ _ _ _ _ _ _ S T (hv1.keep ((((Ext.refl _).alloc _).alloc _).kept _)) (hv2.keep ((((Ext.refl _).alloc _).alloc _).kept _))).mono ?_
        rintro e w' ⟨rfl, hx1⟩
        have HX := Lib.hid (HE.out.trans ((((Ext.refl wr).alloc _).alloc _).trans hx1))
        by_cases he : x[k] = y[k]
        · rw [decide_eq_true he]
          have HV := Lib.hid he
          clear he hx1
          go_wp2
          go_roundw
          case rel =>
            refine ⟨k + 1, by omega, by go_num, HX.out, fun j h h' hj => ?_⟩
            by_cases hjk : j = k
            · subst hjk; exact HV.out
            · exact HA.out j h h' (by omega)
          case measure => simp [intOf]; omega
        · rw [decide_eq_false he]
          have HV := Lib.hid he
          clear he hx1
          go_wp2
          go_ret
          refine ⟨?_, HX.out⟩
          have : x ≠ y := by rintro rfl; exact HV.out rfl
          simp [this]
      · have HE := Lib.hid hext
        clear hext
        go_wp2
        go_ret
        refine ⟨?_, HE.out⟩
        have : x = y := take_all_eq HL.out (fun j h h' => HA.out j h h' (by omega))
        simp [this]
  · have h1 : ((x.length : Int) != (y.length : Int)) = true := by rw [bne_iff_ne]; omega
    have h2 : x ≠ y := fun e => hl (by rw [e])
    have H2 := Lib.hid h2
    clear h2 hl
    go_enter Tryz.func147, Tryz.ntmps147
    go_wp2
    go_ret
    refine ⟨?_, Ext.refl _⟩
    have := H2.out
    simp [this]

set_option maxRecDepth 100000 in
set_option maxHeartbeats 400000 in
theorem value_equalRows (q : Nat) (ih : 0 < q → PEq (q - 1)) (A B : Option Addr) (c d : Nat) (x y : List Val) (w : World) (S T : Nat → Prop) (hx : Row w S q A x) (hy : Row w T q B y) :
    Calls Tryz.prog 124 #[.slice A x.length c, .slice B y.length d] w (RetB w (decide (x = y))) := by
  have HX := Lib.hid hx
  have HY := Lib.hid hy
  clear hx hy
  go_enter Tryz.func124, Tryz.ntmps124
  go_wp2_with fail
  refine (slices_EqualFunc q ih _ _ _ _ _ _ _ S T HX.out HY.out).mono ?_
  rintro e w' ⟨rfl, hx1⟩
  have HX1 := Lib.hid hx1
  clear hx1
  go_wp2
  go_ret
  exact ⟨rfl, HX1.out⟩

set_option maxRecDepth 100000 in
set_option maxHeartbeats 400000 in
theorem slices_EqualFunc2 (q : Nat) (ih : 0 < q → PEq (q - 1)) (A B : Option Addr) (c d : Nat) (x y : List (List Val)) (w : World) (S T : Nat → Prop) (hx : Rows w S q A x) (hy : Rows w T q B y) :
    Calls Tryz.prog 123 #[.slice A x.length c, .slice B y.length d, .func (.func 124) #[] #[]] w (RetB w (decide (x = y))) := by
  have hn := hx.len
  have hm := hy.len
  by_cases hl : x.length = y.length
  · have h1 : ((x.length : Int) != (y.length : Int)) = false := by simp [hl]
    have HL := Lib.hid hl
    clear hl
    go_enter Tryz.func123, Tryz.ntmps123
    go_wp2
    go_loopw [17] (fun i wr => ∃ k : Nat, k ≤ x.length ∧ i = .int .i64 k ∧ Ext w wr ∧ ∀ j (h : j < x.length) (h' : j < y.length), j < k → x[j] = y[j]) (fun i _ => x.length - (intOf i).toNat)
    case atStart => exact ⟨0, Nat.zero_le _, rfl, Ext.refl _, by intros; omega⟩
    case round =>
      obtain ⟨k, hk, rfl, hext, hall⟩ := hrel
      have HA := Lib.hid hall
      clear hall
      by_cases hlt : k < x.length
      · have hky : k < y.length := by have := HL.out; omega
        obtain ⟨b1, o1, A1, c1, rfl, z1, p0, _, hv1⟩ := (hx.keep (hext.kept S)).at_ hlt
        obtain ⟨b2, o2, A2, c2, rfl, z2, q0, _, hv2⟩ := (hy.keep (hext.kept T)).at_ hky
        have HE := Lib.hid hext
        clear hext
        go_wp2_with fail
        refine (value_equalRows q ih _ _ _ _ _ _ _ S T hv1 hv2).mono ?_
        rintro e w' ⟨rfl, hx1⟩
        have HX := Lib.hid (HE.out.trans hx1)
        by_cases he : x[k] = y[k]
        · rw [decide_eq_true he]
          have HV := Lib.hid he
          clear he hx1
          go_wp2
          go_roundw
          case rel =>
            refine ⟨k + 1, by omega, by go_num, HX.out, fun j h h' hj => ?_⟩
            by_cases hjk : j = k
            · subst hjk; exact HV.out
            · exact HA.out j h h' (by omega)
          case measure => simp [intOf]; omega
        · rw [decide_eq_false he]
          have HV := Lib.hid he
          clear he hx1
          go_wp2
          go_ret
          refine ⟨?_, HX.out⟩
          have : x ≠ y := by rintro rfl; exact HV.out rfl
          simp [this]
      · have HE := Lib.hid hext
        clear hext
        go_wp2
        go_ret
        refine ⟨?_, HE.out⟩
        have : x = y := take_all_eq HL.out (fun j h h' => HA.out j h h' (by omega))
        simp [this]
  · have h1 : ((x.length : Int) != (y.length : Int)) = true := by rw [bne_iff_ne]; omega
    have h2 : x ≠ y := fun e => hl (by rw [e])
    have H2 := Lib.hid h2
    clear h2 hl
    go_enter Tryz.func123, Tryz.ntmps123
    go_wp2
    go_ret
    refine ⟨?_, Ext.refl _⟩
    have := H2.out
    simp [this]

set_option maxRecDepth 100000 in
set_option maxHeartbeats 400000 in
theorem value_Equal_step (q : Nat) (ih : 0 < q → PEq (q - 1)) : PEq q := by
  intro x y A B A' B' c e c' e' w S T hx hy
  have IH := Lib.hid ih
  clear ih
  have HX := Lib.hid hx
  have HY := Lib.hid hy
  clear hx hy
  go_enter Tryz.func89, Tryz.ntmps89
  go_wp2_with fail
  rotate_left
  · refine (slices_Equal _ _ _ _ _ _ _ S T (HX.out.strs.keep ((((Ext.refl _).alloc _).alloc _).kept _)) (HY.out.strs.keep ((((Ext.refl _).alloc _).alloc _).kept _))).mono ?_
    rintro e w1 ⟨rfl, n, rfl⟩
    have hnn : x.n = y.n := by simp_all
    have HF := Lib.hid (show x.kind = y.kind ∧ x.s.toList = y.s.toList ∧ x.dn = y.dn ∧ x.ds = y.ds ∧ x.n = y.n from ⟨‹_›, ‹_›, ‹_›, ‹_›, ‹_›⟩)
    by_cases hc : x.cols = y.cols
    · rw [decide_eq_true hc]
      have HC := Lib.hid hc
      clear hc hnn
      go_wp2_with fail
      refine (slices_EqualFunc2 q IH.out _ _ _ _ _ _ _ S T (HX.out.rows_.keep (((((Ext.refl _).alloc _).alloc _).drewN _).kept _)) (HY.out.rows_.keep (((((Ext.refl _).alloc _).alloc _).drewN _).kept _))).mono ?_
      rintro e w2 ⟨rfl, hx2⟩
      have HW := Lib.hid (Ext.trans ((((Ext.refl w).alloc _).alloc _).drewN _) hx2)
      by_cases hr : x.rows = y.rows
      · rw [decide_eq_true hr]
        have HR := Lib.hid hr
        clear hr hx2
        go_wp2
        go_ret
        exact ⟨by rw [decide_eq_true (Val.eq_of HF.out HC.out HR.out)]; rfl, HW.out⟩
      · rw [decide_eq_false hr]
        have HR := Lib.hid hr
        clear hr hx2
        go_wp2
        go_ret
        exact ⟨by rw [decide_eq_false (fun e => HR.out (by rw [e]))]; rfl, HW.out⟩
    · rw [decide_eq_false hc]
      have HC := Lib.hid hc
      clear hc hnn
      go_wp2
      go_ret
      exact ⟨by rw [decide_eq_false (fun e => HC.out (by rw [e]))]; rfl, (((Ext.refl _).alloc _).alloc _).drewN _⟩
  all_goals
    have hne : x ≠ y := by rintro rfl; simp_all
    go_ret
    exact ⟨by simp [hne], ((Ext.refl _).alloc _).alloc _⟩

theorem value_Equal (q : Nat) : PEq q := by
  induction q with
  | zero => exact value_Equal_step 0 (fun h => absurd h (by omega))
  | succ q ih => exact value_Equal_step (q + 1) (fun _ => ih)
end Go.Proofs.YtcmmkeiiapbgcaaGreatDoor
