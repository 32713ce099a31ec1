/- The program's table.Sum. Conditions: the arguments read as data, the table of tens is there. -/
import Derived.Test.YtcmmkeiiapbgcaaGreatDoorAdd
import Derived.Test.YtcmmkeiiapbgcaaGreatDoorTab2
import Derived.Deep.DeepCutAuto
import Derived.Deep.RegionHeld3
namespace Go.Proofs.YtcmmkeiiapbgcaaGreatDoor
open Go Go.RowKit

def numV (n s : Int) : Val := ⟨2, ⟨#[]⟩, n, s, 0, [], []⟩
def sumRows (c : Nat) (ln ls : Int) : List (List Val) → Int → Int → Val × Int
  | [], n, s => (numV n s, 0)
  | r :: rs, n, s =>
    if (r.getD c Val.zero).kind ≠ 2 then (Val.zero, 14)
    else if (addS n s (r.getD c Val.zero).dn (r.getD c Val.zero).ds).2 = false then (Val.zero, 3)
    else if cmpI (mu (addS n s (r.getD c Val.zero).dn (r.getD c Val.zero).ds).1.1 (addS n s (r.getD c Val.zero).dn (r.getD c Val.zero).ds).1.2) (mu ln ls) < 0 then (Val.zero, 20)
    else sumRows c ln ls rs (addS n s (r.getD c Val.zero).dn (r.getD c Val.zero).ds).1.1 (addS n s (r.getD c Val.zero).dn (r.getD c Val.zero).ds).1.2
def sumS (x : Val) (col : ByteArray) (ln ls : Int) : Val × Int :=
  if (decide (x.kind = 5) && rightB x) = false then (Val.zero, 14) else if idxS x.cols col < 0 then (Val.zero, 13) else sumRows (idxS x.cols col).toNat ln ls x.rows 0 0

theorem keep4 {w w' : World} {p0 p1 p2 p3 : Addr} {v0 v1 v2 v3 : Value} (h : Ext w w') (h0 : w.cell? p0 = some v0) (h1 : w.cell? p1 = some v1) (h2 : w.cell? p2 = some v2) (h3 : w.cell? p3 = some v3) :
    w'.cell? p0 = some v0 ∧ w'.cell? p1 = some v1 ∧ w'.cell? p2 = some v2 ∧ w'.cell? p3 = some v3 := ⟨h.cell h0, h.cell h1, h.cell h2, h.cell h3⟩
set_option maxRecDepth 100000 in
set_option maxHeartbeats 1000000 in
theorem table_Sum (q : Nat) (x : Val) (col : ByteArray) (ln ls : Int) (A B : Option Addr) (c e : Nat) (w : World) (S : Nat → Prop) (h : RV w S q x A B) (hcap : x.cols.length ≤ c) (ht : Tens w) :
    Calls Tryz.prog 19 #[(.agg #[.int .i64 x.kind, .string x.s, .int .i64 x.dn, .int .i64 x.ds, .int .i64 x.n, .slice A x.cols.length c, .slice B x.rows.length e]), .string col, .agg #[.int .i64 ln, .int .i64 ls]] w (RetVE w (Fresh w) q (sumS x col ln ls)) := by
  have H := Lib.hid h
  have HT := Lib.hid ht
  have hcl := h.strs.2.1
  have hrl := h.rows_.len
  clear h ht
  go_enter Tryz.func19, Tryz.ntmps19
  go_wp2_with fail
  refine (table_isTable q x A B c e _ S (H.out.keep (((((Ext.refl w).alloc _).alloc _).alloc _).kept _)) hcap).mono ?_
  rintro e1 w1 ⟨rfl, hx1⟩
  have HX1 := Lib.hid ((((Ext.refl w).alloc _).alloc _).alloc _ |>.trans hx1)
  have hz0 := hx1.size
  simp at hz0
  have hz1 : w.heap.size < w1.heap.size := by omega
  have hz2 : w.heap.size + 1 < w1.heap.size := by omega
  have hz3 : w.heap.size + 1 + 1 < w1.heap.size := by omega
  obtain ⟨hc1, hf1⟩ := bcell hx1
  simp at hc1 hf1
  cases hR : (decide (x.kind = 5) && rightB x)
  · have HF := Lib.hid (show sumS x col ln ls = (Val.zero, 14) by unfold sumS; rw [hR, if_pos rfl])
    clear hR hx1
    go_wp2
    rw [HF.out]
    refine bodyPost_ret (v := .tuple #[(.agg #[.int .i64 Val.zero.kind, .string Val.zero.s, .int .i64 Val.zero.dn, .int .i64 Val.zero.ds, .int .i64 Val.zero.n, .slice none Val.zero.cols.length 0, .slice none Val.zero.rows.length 0]), .int .i64 14]) (by simp [results, Tryz.results19, go_sem, hc1, hf1, hz3, Val.zero]) rfl ⟨none, 0, none, 0, rfl, ⟨Nat.le_refl _, Nat.le_refl _⟩, RV.zero, ?_⟩
    iterate 7 with_reducible refine Ext.set2 ?_ (by omega) _
    with_reducible exact HX1.out
  have HR := Lib.hid hR
  have g1 : w1.cell? ⟨w.heap.size, 5, none⟩ = some (.slice A x.cols.length c) := by rw [hc1 _ _ (by omega)]; simp [go_sem]
  have g2 : w1.cell? ⟨w.heap.size, 6, none⟩ = some (.slice B x.rows.length e) := by rw [hc1 _ _ (by omega)]; simp [go_sem]
  have bL : Blk w1 (w.heap.size + 1) 31 #[.int .i64 ln, .int .i64 ls] := by
    have := ((Blk.new (w.alloc (.cells #[.int .i64 x.kind, .string x.s, .int .i64 x.dn, .int .i64 x.ds, .int .i64 x.n, .slice A x.cols.length c, .slice B x.rows.length e] 33)) 31 #[.int .i64 ln, .int .i64 ls]).keep (Kept.alloc _ _ _)).keep (hx1.kept _)
    simpa using this
  have bR : Blk w1 (w.heap.size + 1 + 1) 33 #[.int .i64 Val.zero.kind, .string Val.zero.s, .int .i64 Val.zero.dn, .int .i64 Val.zero.ds, .int .i64 Val.zero.n, .slice none Val.zero.cols.length 0, .slice none Val.zero.rows.length 0] := by
    have := (Blk.new ((w.alloc (.cells #[.int .i64 x.kind, .string x.s, .int .i64 x.dn, .int .i64 x.ds, .int .i64 x.n, .slice A x.cols.length c, .slice B x.rows.length e] 33)).alloc (.cells #[.int .i64 ln, .int .i64 ls] 31)) 33 #[.int .i64 Val.zero.kind, .string Val.zero.s, .int .i64 Val.zero.dn, .int .i64 Val.zero.ds, .int .i64 Val.zero.n, .slice none Val.zero.cols.length 0, .slice none Val.zero.rows.length 0]).keep (hx1.kept _)
    simpa using this
  have HBL := Lib.hid bL
  have HBR := Lib.hid bR
  have HV := Lib.hid (H.out.keep (HX1.out.kept S))
  clear hx1 hc1 hf1 bL bR hR
  by_cases hk : 0 ≤ idxS x.cols col
  case neg =>
    have HF := Lib.hid (show sumS x col ln ls = (Val.zero, 13) by
      unfold sumS
      rw [HR.out, if_neg (by simp), if_pos (by omega)])
    have r0 := HBR.out.cell (i := 0) rfl
    have r1 := HBR.out.cell (i := 1) rfl
    have r2 := HBR.out.cell (i := 2) rfl
    have r3 := HBR.out.cell (i := 3) rfl
    have r4 := HBR.out.cell (i := 4) rfl
    have r5 := HBR.out.cell (i := 5) rfl
    have r6 := HBR.out.cell (i := 6) rfl
    have rf := HBR.out.frozen
    go_wp2_with (go_at_call 45; refine (slices_Index _ _ _ _ _ S HV.out.strs).mono ?_; rintro e w' ⟨rfl, rfl⟩)
    rw [HF.out]
    refine bodyPost_ret (v := .tuple #[(.agg #[.int .i64 Val.zero.kind, .string Val.zero.s, .int .i64 Val.zero.dn, .int .i64 Val.zero.ds, .int .i64 Val.zero.n, .slice none Val.zero.cols.length 0, .slice none Val.zero.rows.length 0]), .int .i64 13]) (by simp [results, Tryz.results19, go_sem, r0, r1, r2, r3, r4, r5, r6, rf, hz3, Val.zero]) rfl ⟨none, 0, none, 0, rfl, ⟨Nat.le_refl _, Nat.le_refl _⟩, RV.zero, ?_⟩
    iterate 7 with_reducible refine Ext.set2 ?_ (by omega) _
    with_reducible exact HX1.out
  obtain ⟨k, hk1, hk2, -⟩ := idxS_at hk
  have HK := Lib.hid hk1
  have HF := Lib.hid (show sumS x col ln ls = sumRows k ln ls x.rows 0 0 by
    unfold sumS
    rw [HR.out, if_neg (by simp), if_neg (by omega), hk1]
    simp)
  clear hk hk1
  go_wp2_with (go_at_call 45; refine (slices_Index _ _ _ _ _ S HV.out.strs).mono ?_; rintro e w' ⟨rfl, rfl⟩; rw [HK.out])
  have HST := Lib.hid (Blk.new w1 31 #[.int .i64 0, .int .i64 0])
  go_loopw [28] (fun i wr => ∃ (m : Nat) (n s : Int), m ≤ x.rows.length ∧ i = .int .i64 m ∧ Ext w1 wr ∧ Blk wr w1.heap.size 31 #[.int .i64 n, .int .i64 s] ∧ sumRows k ln ls (x.rows.drop m) n s = sumRows k ln ls x.rows 0 0) (fun i _ => x.rows.length - (intOf i).toNat)
  case atStart => exact ⟨0, 0, 0, Nat.zero_le _, rfl, (Ext.refl _).alloc _, HST.out, rfl⟩
  case round =>
    clear HST g1 g2
    obtain ⟨m, n, s, hm, rfl, hext, hbs, hfr⟩ := hrel
    have HFR := Lib.hid hfr
    have HE := Lib.hid hext
    have HBS := Lib.hid hbs
    have hbz := hbs.lt
    clear hfr hbs
    by_cases hlt : m < x.rows.length
    · obtain ⟨b1, o1, A2, c2, rfl, z1, p0, hcr, hrow⟩ := (HV.out.rows_.keep (hext.kept S)).at_ hlt
      have hkr : k < x.rows[m].length := by
        have h9 := HR.out
        simp only [Bool.and_eq_true, decide_eq_true_eq] at h9
        have h8 := h9.2
        unfold rightB at h8
        rw [if_pos h9.1, Bool.and_eq_true] at h8
        have := tableR_row h8.1 hlt
        omega
      obtain ⟨b2, o2, A5, c5, B5, e5, rfl, z2, ⟨q0, q1, q2, q3, q4, q5, q6⟩, -, -⟩ := hrow.at_ hkr
      have hrl2 := hrow.len
      have HDR := Lib.hid (show x.rows.drop m = x.rows[m] :: x.rows.drop (m + 1) from List.drop_eq_getElem_cons hlt)
      have HGD := Lib.hid (show (x.rows[m].getD k Val.zero) = x.rows[m][k] from getD_of _ _ _ hkr)
      clear hrow hext
      by_cases hk0 : x.rows[m][k].kind = 2
      case neg =>
        have hk0' : (x.rows[m][k].kind == 2) = false := by simp [hk0]
        have HK1 := Lib.hid (show sumRows k ln ls x.rows 0 0 = (Val.zero, 14) by rw [← HFR.out, HDR.out, sumRows, HGD.out, if_pos hk0])
        clear hk0
        have hbr := HBR.out.keep (HE.out.kept _)
        have r0 := hbr.cell (i := 0) rfl
        have r1 := hbr.cell (i := 1) rfl
        have r2 := hbr.cell (i := 2) rfl
        have r3 := hbr.cell (i := 3) rfl
        have r4 := hbr.cell (i := 4) rfl
        have r5 := hbr.cell (i := 5) rfl
        have r6 := hbr.cell (i := 6) rfl
        have rf := hbr.frozen
        have hz5 := hbr.lt
        clear hbr
        go_wp2
        rw [HF.out, HK1.out]
        refine bodyPost_ret (v := .tuple #[(.agg #[.int .i64 Val.zero.kind, .string Val.zero.s, .int .i64 Val.zero.dn, .int .i64 Val.zero.ds, .int .i64 Val.zero.n, .slice none Val.zero.cols.length 0, .slice none Val.zero.rows.length 0]), .int .i64 14]) (by simp [results, Tryz.results19, go_sem, r0, r1, r2, r3, r4, r5, r6, rf, hz5, Val.zero]) rfl ⟨none, 0, none, 0, rfl, ⟨Nat.le_refl _, Nat.le_refl _⟩, RV.zero, ?_⟩
        iterate 7 with_reducible refine Ext.set2 ?_ (by omega) _
        exact HX1.out.trans HE.out
      have hk0' : (x.rows[m][k].kind == 2) = true := by simp [hk0]
      have HK0 := Lib.hid hk0
      have s0 := HBS.out.cell (i := 0) rfl
      have s1 := HBS.out.cell (i := 1) rfl
      clear hk0
      obtain ⟨⟨⟨n2, s2⟩, ok⟩, hr2⟩ : ∃ r, r = addS n s x.rows[m][k].dn x.rows[m][k].ds := ⟨_, rfl⟩
      have HR2 := Lib.hid hr2
      clear hr2
      have HTW := Lib.hid ((HT.out.ext HX1.out).ext HE.out)
      have hall : ∀ o, (wr.alloc o).cell? ⟨w1.heap.size, 0, none⟩ = some (.int .i64 n) ∧ (wr.alloc o).cell? ⟨w1.heap.size, 1, none⟩ = some (.int .i64 s) := fun o => ⟨((Ext.refl wr).alloc o).cell s0, ((Ext.refl wr).alloc o).cell s1⟩
      go_upto_region 12 with fail
      go_cut [12, 13, 28] from 28 to 58 (fun p b i wx => ∃ g, p = .pointer (some ⟨g, 0, none⟩) ∧ b = .bool ok ∧ i = .int .i64 m ∧ Ext wr wx ∧ wr.heap.size ≤ g ∧ Blk wx g 31 #[.int .i64 n2, .int .i64 s2])
      case first =>
        go_region_held3 (fun w' => w'.cell? ⟨w1.heap.size, 0, none⟩ = some (.int .i64 n) ∧ w'.cell? ⟨w1.heap.size, 1, none⟩ = some (.int .i64 s) ∧ w'.cell? ⟨b2, o2 + k * 7 + 2, none⟩ = some (.int .i64 x.rows[m][k].dn) ∧ w'.cell? ⟨b2, o2 + k * 7 + 3, none⟩ = some (.int .i64 x.rows[m][k].ds)) (first | exact keep4 (Ext.refl _) s0 s1 q2 q3 | exact keep4 (Ext.refl _).drew s0 s1 q2 q3 | exact keep4 ((Ext.refl _).alloc _).drew s0 s1 q2 q3 | exact keep4 hy3 s0 s1 q2 q3 | exact keep4 (hy3.alloc _) s0 s1 q2 q3 | exact keep4 (Ext.set2 (Ext.set2 hy3 (Nat.le_refl _) _) (Nat.le_refl _) _) s0 s1 q2 q3) (first | (go_at_call 57; refine (decimal_Add n s x.rows[m][k].dn x.rows[m][k].ds _ ?_).mono ?_; (first | exact HTW.out.ext (Ext.refl _).drew | exact HTW.out.ext ((Ext.refl _).alloc _).drew); rintro e1 w3 ⟨rfl, hx3⟩; rw [← HR2.out]; (first | (have hy3 : Ext wr w3 := ((Ext.refl wr).drew).trans hx3) | (have hy3 : Ext wr w3 := ((Ext.refl wr).alloc _).drew.trans hx3; have hb3 := ((Blk.new wr 31 #[.int .i64 0, .int .i64 0]).keep (Kept.drew _ _)).keep (hx3.kept _); have f0 := hb3.cell (i := 0) rfl; have f1 := hb3.cell (i := 1) rfl; have ff := hb3.frozen; have fz := hb3.lt))))
        all_goals go_wp2_with fail
        all_goals go_meet
        · exact ⟨w3.heap.size, rfl, rfl, rfl, hy3.alloc _, hy3.size, Blk.new _ _ _⟩
        · refine ⟨wr.heap.size, rfl, rfl, rfl, Ext.set2 (Ext.set2 hy3 (Nat.le_refl _) _) (Nat.le_refl _) _, Nat.le_refl _, ?_⟩
          have := (hb3.set 0 (.int .i64 n2)).set 1 (.int .i64 s2)
          simpa using this
      case rest =>
        obtain ⟨g, rfl, rfl, rfl, hxc, hg, hbc⟩ := hcut
        clear s0 s1 q0 q1 q2 q3 q4 q5 q6 p0 hk0'
        have HSR := Lib.hid (show sumRows k ln ls x.rows 0 0 = if (addS n s x.rows[m][k].dn x.rows[m][k].ds).2 = false then (Val.zero, 3)
            else if cmpI (mu (addS n s x.rows[m][k].dn x.rows[m][k].ds).1.1 (addS n s x.rows[m][k].dn x.rows[m][k].ds).1.2) (mu ln ls) < 0 then (Val.zero, 20)
            else sumRows k ln ls (x.rows.drop (m + 1)) (addS n s x.rows[m][k].dn x.rows[m][k].ds).1.1 (addS n s x.rows[m][k].dn x.rows[m][k].ds).1.2 by
          rw [← HFR.out, HDR.out, sumRows, HGD.out, if_neg (by rw [HK0.out]; simp)])
        rw [← HR2.out] at HSR
        have HX3 := Lib.hid (HE.out.trans hxc)
        have hsz3 := hxc.size
        have HBS3 := Lib.hid (HBS.out.keep (hxc.kept _))
        have HNB := Lib.hid hbc
        have n0 := hbc.cell (i := 0) rfl
        have n1 := hbc.cell (i := 1) rfl
        have hnz := hbc.lt
        clear hxc hbc
        cases ok
        · have HK1 := Lib.hid (show sumRows k ln ls x.rows 0 0 = (Val.zero, 3) by rw [HSR.out, if_pos rfl])
          have hbr := HBR.out.keep (HX3.out.kept _)
          have r0 := hbr.cell (i := 0) rfl
          have r1 := hbr.cell (i := 1) rfl
          have r2 := hbr.cell (i := 2) rfl
          have r3 := hbr.cell (i := 3) rfl
          have r4 := hbr.cell (i := 4) rfl
          have r5 := hbr.cell (i := 5) rfl
          have r6 := hbr.cell (i := 6) rfl
          have rf := hbr.frozen
          have hz5 := hbr.lt
          clear hbr
          go_wp2
          rw [HF.out, HK1.out]
          refine bodyPost_ret (v := .tuple #[(.agg #[.int .i64 Val.zero.kind, .string Val.zero.s, .int .i64 Val.zero.dn, .int .i64 Val.zero.ds, .int .i64 Val.zero.n, .slice none Val.zero.cols.length 0, .slice none Val.zero.rows.length 0]), .int .i64 3]) (by simp [results, Tryz.results19, go_sem, r0, r1, r2, r3, r4, r5, r6, rf, hz5, Val.zero, numV]) rfl ⟨none, 0, none, 0, rfl, ⟨Nat.le_refl _, Nat.le_refl _⟩, RV.mk (Nat.zero_le _) Strs.nil Rows.nil, ?_⟩
          iterate 7 with_reducible refine Ext.set2 ?_ (by omega) _
          exact HX1.out.trans HX3.out
        · have hbl := HBL.out.keep (HX3.out.kept _)
          have l0 := hbl.cell (i := 0) rfl
          have l1 := hbl.cell (i := 1) rfl
          have hlz := hbl.lt
          clear hbl
          go_wp2_with fail
          refine (decimal_Cmp n2 s2 ln ls _ ((HT.out.ext HX1.out).ext HX3.out)).mono ?_
          rintro e1 w4 ⟨rfl, hx4⟩
          have HX4 := Lib.hid (HX3.out.trans hx4)
          have HX4' := Lib.hid hx4
          clear n0 n1 hnz
          have hnb := HNB.out.keep (hx4.kept _)
          have n0 := hnb.cell (i := 0) rfl
          have n1 := hnb.cell (i := 1) rfl
          have hnz := hnb.lt
          clear hx4 l0 l1 hlz hnb
          by_cases hcm : cmpI (mu n2 s2) (mu ln ls) < 0
          · have HK1 := Lib.hid (show sumRows k ln ls x.rows 0 0 = (Val.zero, 20) by rw [HSR.out, if_neg (by simp), if_pos hcm])
            generalize cmpI (mu n2 s2) (mu ln ls) = cv at *
            have hbr := HBR.out.keep (HX4.out.kept _)
            have r0 := hbr.cell (i := 0) rfl
            have r1 := hbr.cell (i := 1) rfl
            have r2 := hbr.cell (i := 2) rfl
            have r3 := hbr.cell (i := 3) rfl
            have r4 := hbr.cell (i := 4) rfl
            have r5 := hbr.cell (i := 5) rfl
            have r6 := hbr.cell (i := 6) rfl
            have rf := hbr.frozen
            have hz5 := hbr.lt
            clear hbr
            go_wp2
            rw [HF.out, HK1.out]
            refine bodyPost_ret (v := .tuple #[(.agg #[.int .i64 Val.zero.kind, .string Val.zero.s, .int .i64 Val.zero.dn, .int .i64 Val.zero.ds, .int .i64 Val.zero.n, .slice none Val.zero.cols.length 0, .slice none Val.zero.rows.length 0]), .int .i64 20]) (by simp [results, Tryz.results19, go_sem, r0, r1, r2, r3, r4, r5, r6, rf, hz5, Val.zero, numV]) rfl ⟨none, 0, none, 0, rfl, ⟨Nat.le_refl _, Nat.le_refl _⟩, RV.mk (Nat.zero_le _) Strs.nil Rows.nil, ?_⟩
            iterate 7 with_reducible refine Ext.set2 ?_ (by omega) _
            exact HX1.out.trans HX4.out
          · have HK1 := Lib.hid (show sumRows k ln ls (x.rows.drop (m + 1)) n2 s2 = sumRows k ln ls x.rows 0 0 by rw [HSR.out, if_neg (by simp), if_neg hcm])
            generalize cmpI (mu n2 s2) (mu ln ls) = cv at *
            have HBS4 := Lib.hid (HBS3.out.keep (HX4'.out.kept _))
            have hsz4 := HX4'.out.size
            have s0 := HBS4.out.cell (i := 0) rfl
            have s1 := HBS4.out.cell (i := 1) rfl
            have sf := HBS4.out.frozen
            have sz := HBS4.out.lt
            go_wp2
            go_roundw
            case rel =>
              refine ⟨m + 1, n2, s2, by omega, by go_num, ?_, ?_, HK1.out⟩
              · iterate 2 with_reducible refine Ext.set2 ?_ (by omega) _
                exact HX4.out
              · have := (HBS4.out.set 0 (.int .i64 n2)).set 1 (.int .i64 s2)
                simpa using this
            case measure => simp [intOf]; omega
    · have HK1 := Lib.hid (show sumRows k ln ls x.rows 0 0 = (numV n s, 0) by rw [← HFR.out, List.drop_eq_nil_of_le (by omega)]; rfl)
      have s0 := HBS.out.cell (i := 0) rfl
      have s1 := HBS.out.cell (i := 1) rfl
      have sf := HBS.out.frozen
      clear hext
      have hbr := HBR.out.keep (HE.out.kept _)
      have r0 := hbr.cell (i := 0) rfl
      have r1 := hbr.cell (i := 1) rfl
      have r2 := hbr.cell (i := 2) rfl
      have r3 := hbr.cell (i := 3) rfl
      have r4 := hbr.cell (i := 4) rfl
      have r5 := hbr.cell (i := 5) rfl
      have r6 := hbr.cell (i := 6) rfl
      have rf := hbr.frozen
      have hz5 := hbr.lt
      clear hbr
      go_wp2
      rw [HF.out, HK1.out]
      refine bodyPost_ret (v := .tuple #[.agg #[.int .i64 2, .string ⟨#[]⟩, .int .i64 n, .int .i64 s, .int .i64 0, .slice none 0 0, .slice none 0 0], .int .i64 0]) (by simp [results, Tryz.results19, go_sem, r0, r1, r2, r3, r4, r5, r6, rf, hz5, Val.zero, numV]) rfl ⟨none, 0, none, 0, rfl, ⟨Nat.le_refl _, Nat.le_refl _⟩, RV.mk (Nat.zero_le _) Strs.nil Rows.nil, ?_⟩
      iterate 7 with_reducible refine Ext.set2 ?_ (by omega) _
      exact HX1.out.trans HE.out
end Go.Proofs.YtcmmkeiiapbgcaaGreatDoor
