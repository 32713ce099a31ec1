/- The program's table.Sum. Conditions: the arguments read as data, the table of tens is there. -/
import Derived.Test.YtcmmkeiiapbgcaaGreatDoorBm5
import Derived.Deep.DeepCutAuto
import Derived.Deep.RegionHeld3
import Derived.IntWalk
namespace Go.Proofs.YtcmmkeiiapbgcaaGreatDoor
open Go Go.RowKit

def numV (n s : Int) : Val := ⟨2, ⟨#[]⟩, n, s, 0, [], []⟩
def sumRows (c : Nat) (ln ls : Int) : List (List Val) → Int → Int → Val × Int
  | [], n, s => (numV n s, 0)
  | r :: rs, n, s =>
    if (r.getD c Val.zero).kind ≠ 2 then (Val.zero, 14)
    else if (addS n s (r.getD c Val.zero).dn (r.getD c Val.zero).ds).2 = false then (Val.zero, 3)
    else if cmpI (mu (addS n s (r.getD c Val.zero).dn (r.getD c Val.zero).ds).1.1 (addS n s (r.getD c Val.zero).dn (r.getD c Val.zero).ds).1.2) (mu ln ls) < 0 then (Val.zero, 20)
    else sumRows c ln ls rs (addS n s (r.getD c Val.zero).dn (r.getD c Val.zero).ds).1.1 (addS n s (r.getD c Val.zero).dn (r.getD c Val.zero).ds).1.2
def sumS (x : Val) (col : ByteArray) (ln ls : Int) : Val × Int :=
  if (decide (x.kind = 5) && rightB x) = false then (Val.zero, 14) else if idxS x.cols col < 0 then (Val.zero, 13) else sumRows (idxS x.cols col).toNat ln ls x.rows 0 0

theorem keep4 {w w' : World} {p0 p1 p2 p3 : Addr} {v0 v1 v2 v3 : Value} (h : Ext w w') (h0 : w.cell? p0 = some v0) (h1 : w.cell? p1 = some v1) (h2 : w.cell? p2 = some v2) (h3 : w.cell? p3 = some v3) :
    w'.cell? p0 = some v0 ∧ w'.cell? p1 = some v1 ∧ w'.cell? p2 = some v2 ∧ w'.cell? p3 = some v3 := ⟨h.cell h0, h.cell h1, h.cell h2, h.cell h3⟩
set_option maxRecDepth 100000 in
set_option maxHeartbeats 1000000 in
theorem table_Sum (q : Nat) (x : Val) (col : ByteArray) (ln ls : Int) (A B : Option Addr) (c e : Nat) (w : World) (S : Nat → Prop) (h : RV w S q x A B) (hcap : x.cols.length ≤ c) (ht : Tens w) :
    Calls Tryz.prog 19 #[(.agg #[.int .i64 x.kind, .string x.s, .int .i64 x.dn, .int .i64 x.ds, .int .i64 x.n, .slice A x.cols.length c, .slice B x.rows.length e]), .string col, .agg #[.int .i64 ln, .int .i64 ls]] w (RetVE w (Fresh w) q (sumS x col ln ls)) := by
  have H := Lib.hid h
  have HT := Lib.hid ht
  have hcl := h.strs.2.1
  have hrl := h.rows_.len
  clear h ht
  go_enter Tryz.func19, Tryz.ntmps19
  go_wp2_with fail
  refine (table_isTable q x A B c e _ S (H.out.keep (((((Ext.refl w).alloc _).alloc _).alloc _).kept _)) hcap).mono ?_
  rintro e1 w1 ⟨rfl, hx1⟩
  have HX1 := Lib.hid ((((Ext.refl w).alloc _).alloc _).alloc _ |>.trans hx1)
  have hz0 := hx1.size
  simp at hz0
  have hz1 : w.heap.size < w1.heap.size := by omega
  have hz2 : w.heap.size + 1 < w1.heap.size := by omega
  have hz3 : w.heap.size + 1 + 1 < w1.heap.size := by omega
  obtain ⟨hc1, hf1⟩ := bcell hx1
  simp at hc1 hf1
  cases hR : (decide (x.kind = 5) && rightB x)
  · have HF := Lib.hid (show sumS x col ln ls = (Val.zero, 14) by unfold sumS; rw [hR, if_pos rfl])
    clear hR hx1
    go_wp2
    rw [HF.out]
    refine bodyPost_ret (v := .tuple #[(.agg #[.int .i64 Val.zero.kind, .string Val.zero.s, .int .i64 Val.zero.dn, .int .i64 Val.zero.ds, .int .i64 Val.zero.n, .slice none Val.zero.cols.length 0, .slice none Val.zero.rows.length 0]), .int .i64 14]) (by simp [results, Tryz.results19, go_sem, hc1, Val.zero]) rfl ⟨none, 0, none, 0, rfl, ⟨Nat.le_refl _, Nat.le_refl _⟩, RV.zero, ?_⟩
    iterate 7 with_reducible refine Ext.set2 ?_ (by omega) _
    with_reducible exact HX1.out
  have HR := Lib.hid hR
  have g1 : w1.cell? ⟨w.heap.size, 5, none⟩ = some (.slice A x.cols.length c) := by rw [hc1 _ _ (by omega)]; simp [go_sem]
  have g2 : w1.cell? ⟨w.heap.size, 6, none⟩ = some (.slice B x.rows.length e) := by rw [hc1 _ _ (by omega)]; simp [go_sem]
  have bL : Blk w1 (w.heap.size + 1) 31 #[.int .i64 ln, .int .i64 ls] := by
    have := ((Blk.new (w.alloc (.cells #[.int .i64 x.kind, .string x.s, .int .i64 x.dn, .int .i64 x.ds, .int .i64 x.n, .slice A x.cols.length c, .slice B x.rows.length e] 33)) 31 #[.int .i64 ln, .int .i64 ls]).keep (Kept.alloc _ _ _)).keep (hx1.kept _)
    simpa using this
  have bR : Blk w1 (w.heap.size + 1 + 1) 33 #[.int .i64 Val.zero.kind, .string Val.zero.s, .int .i64 Val.zero.dn, .int .i64 Val.zero.ds, .int .i64 Val.zero.n, .slice none Val.zero.cols.length 0, .slice none Val.zero.rows.length 0] := by
    have := (Blk.new ((w.alloc (.cells #[.int .i64 x.kind, .string x.s, .int .i64 x.dn, .int .i64 x.ds, .int .i64 x.n, .slice A x.cols.length c, .slice B x.rows.length e] 33)).alloc (.cells #[.int .i64 ln, .int .i64 ls] 31)) 33 #[.int .i64 Val.zero.kind, .string Val.zero.s, .int .i64 Val.zero.dn, .int .i64 Val.zero.ds, .int .i64 Val.zero.n, .slice none Val.zero.cols.length 0, .slice none Val.zero.rows.length 0]).keep (hx1.kept _)
    simpa using this
  have HBL := Lib.hid bL
  have HBR := Lib.hid bR
  have HV := Lib.hid (H.out.keep (HX1.out.kept S))
  clear hx1 hc1 hf1 bL bR hR
  by_cases hk : 0 ≤ idxS x.cols col
  case neg =>
    have HF := Lib.hid (show sumS x col ln ls = (Val.zero, 13) by
      unfold sumS
      rw [HR.out, if_neg (by simp), if_pos (by omega)])
    have r0 := HBR.out.cell (i := 0) rfl
    have r1 := HBR.out.cell (i := 1) rfl
    have r2 := HBR.out.cell (i := 2) rfl
    have r3 := HBR.out.cell (i := 3) rfl
    have r4 := HBR.out.cell (i := 4) rfl
    have r5 := HBR.out.cell (i := 5) rfl
    have r6 := HBR.out.cell (i := 6) rfl
    have rf := HBR.out.frozen
    go_wp2_with (go_at_call 45; refine (slices_Index _ _ _ _ _ S HV.out.strs).mono ?_; rintro e w' ⟨rfl, rfl⟩)
    rw [HF.out]
    refine bodyPost_ret (v := .tuple #[(.agg #[.int .i64 Val.zero.kind, .string Val.zero.s, .int .i64 Val.zero.dn, .int .i64 Val.zero.ds, .int .i64 Val.zero.n, .slice none Val.zero.cols.length 0, .slice none Val.zero.rows.length 0]), .int .i64 13]) (by simp [results, Tryz.results19, go_sem, r0, r1, r2, r3, r4, r5, r6, Val.zero]) rfl ⟨none, 0, none, 0, rfl, ⟨Nat.le_refl _, Nat.le_refl _⟩, RV.zero, ?_⟩
    iterate 7 with_reducible refine Ext.set2 ?_ (by omega) _
    with_reducible exact HX1.out
  obtain ⟨k, hk1, hk2, -⟩ := idxS_at hk
  have HK := Lib.hid hk1
  have HF := Lib.hid (show sumS x col ln ls = sumRows k ln ls x.rows 0 0 by
    unfold sumS
    rw [HR.out, if_neg (by simp), if_neg (by omega), hk1]
    simp)
  clear hk hk1
  go_wp2_with (go_at_call 45; refine (slices_Index _ _ _ _ _ S HV.out.strs).mono ?_; rintro e w' ⟨rfl, rfl⟩; rw [HK.out])
  have HST := Lib.hid (Blk.new w1 31 #[.int .i64 0, .int .i64 0])
  go_loopw [28] (fun i wr => ∃ (m : Nat) (n s : Int), m ≤ x.rows.length ∧ i = .int .i64 m ∧ Ext w1 wr ∧ Blk wr w1.heap.size 31 #[.int .i64 n, .int .i64 s] ∧ sumRows k ln ls (x.rows.drop m) n s = sumRows k ln ls x.rows 0 0) (fun i _ => x.rows.length - (intOf i).toNat)
  case atStart => exact ⟨0, 0, 0, Nat.zero_le _, rfl, (Ext.refl _).alloc _, HST.out, rfl⟩
  case round =>
    clear HST g1 g2
    obtain ⟨m, n, s, hm, rfl, hext, hbs, hfr⟩ := hrel
    have HFR := Lib.hid hfr
    have HE := Lib.hid hext
    have HBS := Lib.hid hbs
    have hbz := hbs.lt
    clear hfr hbs
    by_cases hlt : m < x.rows.length
    · obtain ⟨b1, o1, A2, c2, rfl, z1, p0, hcr, hrow⟩ := (HV.out.rows_.keep (hext.kept S)).at_ hlt
      have hkr : k < x.rows[m].length := by
        have h9 := HR.out
        simp only [Bool.and_eq_true, decide_eq_true_eq] at h9
        have h8 := h9.2
        unfold rightB at h8
        rw [if_pos h9.1, Bool.and_eq_true] at h8
        have := tableR_row h8.1 hlt
        omega
      obtain ⟨b2, o2, A5, c5, B5, e5, rfl, z2, ⟨q0, q1, q2, q3, q4, q5, q6⟩, -, -⟩ := hrow.at_ hkr
      have hrl2 := hrow.len
      have HDR := Lib.hid (show x.rows.drop m = x.rows[m] :: x.rows.drop (m + 1) from List.drop_eq_getElem_cons hlt)
      have HGD := Lib.hid (show (x.rows[m].getD k Val.zero) = x.rows[m][k] from getD_of _ _ _ hkr)
      clear hrow hext
      by_cases hk0 : x.rows[m][k].kind = 2
      case neg =>
        have hk0' : (x.rows[m][k].kind == 2) = false := by simp [hk0]
        have HK1 := Lib.hid (show sumRows k ln ls x.rows 0 0 = (Val.zero, 14) by rw [← HFR.out, HDR.out, sumRows, HGD.out, if_pos hk0])
        clear hk0
        have hbr := HBR.out.keep (HE.out.kept _)
        have r0 := hbr.cell (i := 0) rfl
        have r1 := hbr.cell (i := 1) rfl
        have r2 := hbr.cell (i := 2) rfl
        have r3 := hbr.cell (i := 3) rfl
        have r4 := hbr.cell (i := 4) rfl
        have r5 := hbr.cell (i := 5) rfl
        have r6 := hbr.cell (i := 6) rfl
        have rf := hbr.frozen
        have hz5 := hbr.lt
        clear hbr
        go_wp2
        rw [HF.out, HK1.out]
        refine bodyPost_ret (v := .tuple #[(.agg #[.int .i64 Val.zero.kind, .string Val.zero.s, .int .i64 Val.zero.dn, .int .i64 Val.zero.ds, .int .i64 Val.zero.n, .slice none Val.zero.cols.length 0, .slice none Val.zero.rows.length 0]), .int .i64 14]) (by simp [results, Tryz.results19, go_sem, r0, r1, r2, r3, r4, r5, r6, Val.zero]) rfl ⟨none, 0, none, 0, rfl, ⟨Nat.le_refl _, Nat.le_refl _⟩, RV.zero, ?_⟩
        iterate 7 with_reducible refine Ext.set2 ?_ (by omega) _
        exact HX1.out.trans HE.out
      have hk0' : (x.rows[m][k].kind == 2) = true := by simp [hk0]
      have HK0 := Lib.hid hk0
      have s0 := HBS.out.cell (i := 0) rfl
      have s1 := HBS.out.cell (i := 1) rfl
      clear hk0
      obtain ⟨⟨⟨n2, s2⟩, ok⟩, hr2⟩ : ∃ r, r = addS n s x.rows[m][k].dn x.rows[m][k].ds := ⟨_, rfl⟩
      have HR2 := Lib.hid hr2
      clear hr2
      have HTW := Lib.hid ((HT.out.ext HX1.out).ext HE.out)
      have hall : ∀ o, (wr.alloc o).cell? ⟨w1.heap.size, 0, none⟩ = some (.int .i64 n) ∧ (wr.alloc o).cell? ⟨w1.heap.size, 1, none⟩ = some (.int .i64 s) := fun o => ⟨((Ext.refl wr).alloc o).cell s0, ((Ext.refl wr).alloc o).cell s1⟩
      go_upto_region 12 with fail
      go_cut [12, 13, 28] from 28 to 58 (fun p b i wx => ∃ g, p = .pointer (some ⟨g, 0, none⟩) ∧ b = .bool ok ∧ i = .int .i64 m ∧ Ext wr wx ∧ wr.heap.size ≤ g ∧ Blk wx g 31 #[.int .i64 n2, .int .i64 s2])
      case first =>
        go_region_held3 (fun w' => w'.cell? ⟨w1.heap.size, 0, none⟩ = some (.int .i64 n) ∧ w'.cell? ⟨w1.heap.size, 1, none⟩ = some (.int .i64 s) ∧ w'.cell? ⟨b2, o2 + k * 7 + 2, none⟩ = some (.int .i64 x.rows[m][k].dn) ∧ w'.cell? ⟨b2, o2 + k * 7 + 3, none⟩ = some (.int .i64 x.rows[m][k].ds)) (first | exact keep4 (Ext.refl _) s0 s1 q2 q3 | exact keep4 (Ext.refl _).drew s0 s1 q2 q3 | exact keep4 ((Ext.refl _).alloc _).drew s0 s1 q2 q3 | exact keep4 hy3 s0 s1 q2 q3 | exact keep4 (hy3.alloc _) s0 s1 q2 q3 | exact keep4 (Ext.set2 (Ext.set2 hy3 (Nat.le_refl _) _) (Nat.le_refl _) _) s0 s1 q2 q3) (first | (go_at_call 57; refine (decimal_Add n s x.rows[m][k].dn x.rows[m][k].ds _ ?_).mono ?_; (first | exact HTW.out.ext (Ext.refl _).drew | exact HTW.out.ext ((Ext.refl _).alloc _).drew); rintro e1 w3 ⟨rfl, hx3⟩; rw [← HR2.out]; (first | (have hy3 : Ext wr w3 := ((Ext.refl wr).drew).trans hx3) | (have hy3 : Ext wr w3 := ((Ext.refl wr).alloc _).drew.trans hx3; have hb3 := ((Blk.new wr 31 #[.int .i64 0, .int .i64 0]).keep (Kept.drew _ _)).keep (hx3.kept _); have f0 := hb3.cell (i := 0) rfl; have f1 := hb3.cell (i := 1) rfl; have ff := hb3.frozen; have fz := hb3.lt))))
        all_goals go_wp2_with fail
        all_goals go_meet
        · exact ⟨w3.heap.size, rfl, rfl, rfl, hy3.alloc _, hy3.size, Blk.new _ _ _⟩
        · refine ⟨wr.heap.size, rfl, rfl, rfl, Ext.set2 (Ext.set2 hy3 (Nat.le_refl _) _) (Nat.le_refl _) _, Nat.le_refl _, ?_⟩
          have := (hb3.set 0 (.int .i64 n2)).set 1 (.int .i64 s2)
          simpa using this
      case rest =>
        obtain ⟨g, rfl, rfl, rfl, hxc, hg, hbc⟩ := hcut
        clear s0 s1 q0 q1 q2 q3 q4 q5 q6 p0 hk0'
        have HSR := Lib.hid (show sumRows k ln ls x.rows 0 0 = if (addS n s x.rows[m][k].dn x.rows[m][k].ds).2 = false then (Val.zero, 3)
            else if cmpI (mu (addS n s x.rows[m][k].dn x.rows[m][k].ds).1.1 (addS n s x.rows[m][k].dn x.rows[m][k].ds).1.2) (mu ln ls) < 0 then (Val.zero, 20)
            else sumRows k ln ls (x.rows.drop (m + 1)) (addS n s x.rows[m][k].dn x.rows[m][k].ds).1.1 (addS n s x.rows[m][k].dn x.rows[m][k].ds).1.2 by
          rw [← HFR.out, HDR.out, sumRows, HGD.out, if_neg (by rw [HK0.out]; simp)])
        rw [← HR2.out] at HSR
        have HX3 := Lib.hid (HE.out.trans hxc)
        have hsz3 := hxc.size
        have HBS3 := Lib.hid (HBS.out.keep (hxc.kept _))
        have HNB := Lib.hid hbc
        have n0 := hbc.cell (i := 0) rfl
        have n1 := hbc.cell (i := 1) rfl
        have hnz := hbc.lt
        clear hxc hbc
        cases ok
        · have HK1 := Lib.hid (show sumRows k ln ls x.rows 0 0 = (Val.zero, 3) by rw [HSR.out, if_pos rfl])
          have hbr := HBR.out.keep (HX3.out.kept _)
          have r0 := hbr.cell (i := 0) rfl
          have r1 := hbr.cell (i := 1) rfl
          have r2 := hbr.cell (i := 2) rfl
          have r3 := hbr.cell (i := 3) rfl
          have r4 := hbr.cell (i := 4) rfl
          have r5 := hbr.cell (i := 5) rfl
          have r6 := hbr.cell (i := 6) rfl
          have rf := hbr.frozen
          have hz5 := hbr.lt
          clear hbr
          go_wp2
          rw [HF.out, HK1.out]
          refine bodyPost_ret (v := .tuple #[(.agg #[.int .i64 Val.zero.kind, .string Val.zero.s, .int .i64 Val.zero.dn, .int .i64 Val.zero.ds, .int .i64 Val.zero.n, .slice none Val.zero.cols.length 0, .slice none Val.zero.rows.length 0]), .int .i64 3]) (by simp [results, Tryz.results19, go_sem, r0, r1, r2, r3, r4, r5, r6, Val.zero]) rfl ⟨none, 0, none, 0, rfl, ⟨Nat.le_refl _, Nat.le_refl _⟩, RV.mk (Nat.zero_le _) Strs.nil Rows.nil, ?_⟩
          iterate 7 with_reducible refine Ext.set2 ?_ (by omega) _
          exact HX1.out.trans HX3.out
        · have hbl := HBL.out.keep (HX3.out.kept _)
          have l0 := hbl.cell (i := 0) rfl
          have l1 := hbl.cell (i := 1) rfl
          have hlz := hbl.lt
          clear hbl
          go_wp2_with fail
          refine (decimal_Cmp n2 s2 ln ls _ ((HT.out.ext HX1.out).ext HX3.out)).mono ?_
          rintro e1 w4 ⟨rfl, hx4⟩
          have HX4 := Lib.hid (HX3.out.trans hx4)
          have HX4' := Lib.hid hx4
          clear n0 n1 hnz
          have hnb := HNB.out.keep (hx4.kept _)
          have n0 := hnb.cell (i := 0) rfl
          have n1 := hnb.cell (i := 1) rfl
          have hnz := hnb.lt
          clear hx4 l0 l1 hlz hnb
          by_cases hcm : cmpI (mu n2 s2) (mu ln ls) < 0
          · have HK1 := Lib.hid (show sumRows k ln ls x.rows 0 0 = (Val.zero, 20) by rw [HSR.out, if_neg (by simp), if_pos hcm])
            generalize cmpI (mu n2 s2) (mu ln ls) = cv at *
            have hbr := HBR.out.keep (HX4.out.kept _)
            have r0 := hbr.cell (i := 0) rfl
            have r1 := hbr.cell (i := 1) rfl
            have r2 := hbr.cell (i := 2) rfl
            have r3 := hbr.cell (i := 3) rfl
            have r4 := hbr.cell (i := 4) rfl
            have r5 := hbr.cell (i := 5) rfl
            have r6 := hbr.cell (i := 6) rfl
            have rf := hbr.frozen
            have hz5 := hbr.lt
            clear hbr
            go_wp2
            rw [HF.out, HK1.out]
            refine bodyPost_ret (v := .tuple #[(.agg #[.int .i64 Val.zero.kind, .string Val.zero.s, .int .i64 Val.zero.dn, .int .i64 Val.zero.ds, .int .i64 Val.zero.n, .slice none Val.zero.cols.length 0, .slice none Val.zero.rows.length 0]), .int .i64 20]) (by simp [results, Tryz.results19, go_sem, r0, r1, r2, r3, r4, r5, r6, Val.zero]) rfl ⟨none, 0, none, 0, rfl, ⟨Nat.le_refl _, Nat.le_refl _⟩, RV.mk (Nat.zero_le _) Strs.nil Rows.nil, ?_⟩
            iterate 7 with_reducible refine Ext.set2 ?_ (by omega) _
            exact HX1.out.trans HX4.out
          · have HK1 := Lib.hid (show sumRows k ln ls (x.rows.drop (m + 1)) n2 s2 = sumRows k ln ls x.rows 0 0 by rw [HSR.out, if_neg (by simp), if_neg hcm])
            generalize cmpI (mu n2 s2) (mu ln ls) = cv at *
            have HBS4 := Lib.hid (HBS3.out.keep (HX4'.out.kept _))
            have hsz4 := HX4'.out.size
            have s0 := HBS4.out.cell (i := 0) rfl
            have s1 := HBS4.out.cell (i := 1) rfl
            have sf := HBS4.out.frozen
            have sz := HBS4.out.lt
            go_wp2
            go_roundw
            case rel =>
              refine ⟨m + 1, n2, s2, by omega, by go_num, ?_, ?_, HK1.out⟩
              · iterate 2 with_reducible refine Ext.set2 ?_ (by omega) _
                exact HX4.out
              · have := (HBS4.out.set 0 (.int .i64 n2)).set 1 (.int .i64 s2)
                simpa using this
            case measure => simp [intOf]; omega
    · have HK1 := Lib.hid (show sumRows k ln ls x.rows 0 0 = (numV n s, 0) by rw [← HFR.out, List.drop_eq_nil_of_le (by omega)]; rfl)
      have s0 := HBS.out.cell (i := 0) rfl
      have s1 := HBS.out.cell (i := 1) rfl
      have sf := HBS.out.frozen
      clear hext
      have hbr := HBR.out.keep (HE.out.kept _)
      have r0 := hbr.cell (i := 0) rfl
      have r1 := hbr.cell (i := 1) rfl
      have r2 := hbr.cell (i := 2) rfl
      have r3 := hbr.cell (i := 3) rfl
      have r4 := hbr.cell (i := 4) rfl
      have r5 := hbr.cell (i := 5) rfl
      have r6 := hbr.cell (i := 6) rfl
      have rf := hbr.frozen
      have hz5 := hbr.lt
      clear hbr
      go_wp2
      rw [HF.out, HK1.out]
      refine bodyPost_ret (v := .tuple #[.agg #[.int .i64 2, .string ⟨#[]⟩, .int .i64 n, .int .i64 s, .int .i64 0, .slice none 0 0, .slice none 0 0], .int .i64 0]) (by simp [results, Tryz.results19, go_sem, r0, r1, r2, r3, r4, r5, r6, Val.zero]) rfl ⟨none, 0, none, 0, rfl, ⟨Nat.le_refl _, Nat.le_refl _⟩, RV.mk (Nat.zero_le _) Strs.nil Rows.nil, ?_⟩
      iterate 7 with_reducible refine Ext.set2 ?_ (by omega) _
      exact HX1.out.trans HE.out
end Go.Proofs.YtcmmkeiiapbgcaaGreatDoor
/- Small functions of the law: text, number; the reference's Deps on equal lists. Conditions: the arguments read as data. -/
namespace Go.Proofs.YtcmmkeiiapbgcaaGreatDoor
open Go Go.RowKit

theorem quietB {P : Program} {f : FuncId} {args : Array Value} {w : World} {n : Nat} {v : Bool} (h : Calls P f args (w.drewN n) (QuietB (w.drewN n) v)) :
    Calls P f args (w.drewN n) fun e w'' => e = .returned (.bool v) ∧ ∃ m, w'' = w.drewN m := h.mono fun _ _ ⟨he, m, hm⟩ => ⟨he, n + m, by rw [hm, World.drewN_drewN]⟩
def textV (s : ByteArray) : Val := ⟨1, s, 0, 0, 0, [], []⟩
def RetV0 (w : World) (x : Val) (e : Ending) (w' : World) : Prop := e = .returned (.agg #[.int .i64 x.kind, .string x.s, .int .i64 x.dn, .int .i64 x.ds, .int .i64 x.n, .slice none x.cols.length 0, .slice none x.rows.length 0]) ∧ Ext w w'
set_option maxRecDepth 100000 in
theorem law_text (s : ByteArray) (w : World) : Calls Tryz.prog 38 #[.string s] w (RetV0 w (textV s)) := by
  go_enter Tryz.func38, Tryz.ntmps38
  go_wp2
  refine bodyPost_ret (v := .agg #[.int .i64 1, .string s, .int .i64 0, .int .i64 0, .int .i64 0, .slice none 0 0, .slice none 0 0]) (by simp [results, Tryz.results38, go_sem]) rfl ⟨rfl, ?_⟩
  exact (Ext.refl w).alloc _
set_option maxRecDepth 100000 in
theorem law_number (n : Int) (w : World) : Calls Tryz.prog 40 #[.int .i64 n] w (RetV0 w (numV n 0)) := by
  go_enter Tryz.func40, Tryz.ntmps40
  go_wp2
  refine bodyPost_ret (v := .agg #[.int .i64 2, .string ⟨#[]⟩, .int .i64 n, .int .i64 0, .int .i64 0, .slice none 0 0, .slice none 0 0]) (by simp [results, Tryz.results40, go_sem]) rfl ⟨rfl, ?_⟩
  exact (Ext.refl w).alloc _
theorem r06_StringsSame (A B : Option Addr) (c d : Nat) (x : List ByteArray) (w : World) (S T : Nat → Prop) (hx : Strs w S A x) (hy : Strs w T B x) :
    Calls Tryz.prog 27 #[.slice A x.length c, .slice B x.length d] w (QuietB w true) := by
  have := r06_Strings A B c d x x w S T hx hy
  simpa using this
set_option maxRecDepth 100000 in
set_option maxHeartbeats 400000 in
theorem r09_Deps (l : List Dep) (A B : Option Addr) (ca cb : Nat) (w : World) (S T : Nat → Prop) (hA : RDeps w S A l) (hB : RDeps w T B l) :
    Calls Tryz.prog 41 #[.slice A l.length ca, .slice B l.length cb] w (QuietB w true) := by
  have hl := hA.1
  have HA := Lib.hid hA
  have HB := Lib.hid hB
  clear hA hB
  go_enter Tryz.func41, Tryz.ntmps41
  go_wp2
  go_loopw [5] (fun i wr => ∃ k : Nat, k ≤ l.length ∧ i = .int .i64 k ∧ (∃ n, wr = w.drewN n)) (fun i _ => l.length - (intOf i).toNat)
  case atStart => exact ⟨0, Nat.zero_le _, rfl, ⟨0, rfl⟩⟩
  case round =>
    obtain ⟨k, hk, rfl, ⟨n, hwr⟩⟩ := hrel
    have HWR := Lib.hid hwr
    have HKA := Lib.hid (HA.out.keep (show Kept S w wr by rw [hwr]; exact Kept.drewN _ _ _))
    have HKB := Lib.hid (HB.out.keep (show Kept T w wr by rw [hwr]; exact Kept.drewN _ _ _))
    clear hwr
    by_cases hlt : k < l.length
    · obtain ⟨b1, o1, B1, c1, rfl, z1, p1, p2, p3, p4, p5⟩ := HKA.out.at_ hlt
      obtain ⟨b2, o2, B2, c2, rfl, z2, q1, q2, q3, q4, q5⟩ := HKB.out.at_ hlt
      have H1 := Lib.hid p5
      have H2 := Lib.hid q5
      have hne : (l[k].to.toList == l[k].to.toList) = true := by simp
      clear p5 q5
      go_wp2
      go_quiet ((go_at_call 27; exact quietB (r06_StringsSame B1 B2 c1 c2 _ _ S T (H1.out.keep (Kept.drewN _ _ _)) (H2.out.keep (Kept.drewN _ _ _)))))
      go_wp2
      go_roundw
      case rel => exact ⟨k + 1, by omega, by go_num, ⟨_, by rw [HWR.out]; exact World.drewN_drewN _ _ _⟩⟩
      case measure => simp [intOf]; omega
    · go_wp2
      go_ret
      exact ⟨rfl, n, HWR.out⟩
end Go.Proofs.YtcmmkeiiapbgcaaGreatDoor
/- Rows of flat values that a literal makes. No conditions. -/
namespace Go.Proofs.YtcmmkeiiapbgcaaGreatDoor
open Go Go.RowKit

/-- A value without columns and rows. -/
def flatV (y : Val) : Prop := y.cols = [] ∧ y.rows = [] ∧ y.s.size ≤ 4294967296
theorem CV.flat {w : World} {S : Nat → Prop} {d : Nat} {y : Val} (hy : flatV y) (hd : 0 < d) : CV w S d y (vcells y none 0 none 0) := by
  obtain ⟨h1, h2, h3⟩ := hy
  refine ⟨none, 0, none, 0, rfl, ⟨hd, by rw [h1]; exact Nat.le_refl _, by rw [h2]; exact Nat.le_refl _⟩, RV.mk h3 (by rw [h1]; exact Strs.nil) (by rw [h2]; exact Rows.nil)⟩
theorem VL.flat {w : World} {S : Nat → Prop} {d : Nat} (hd : 0 < d) : ∀ (ys : List Val), (∀ y ∈ ys, flatV y) → VL (CV w S d) (ys.flatMap fun y => vcells y none 0 none 0) ys
  | [], _ => VL.nil _
  | y :: ys, h => by
    have h1 := VL.snoc (VL.nil (CV w S d)) (cs := vcells y none 0 none 0) (y := y) (CV.flat (w := w) (S := S) (h y List.mem_cons_self) hd).one.1 (CV.flat (h y List.mem_cons_self) hd)
    have h2 := VL.flat (w := w) (S := S) hd ys fun z hz => h z (List.mem_cons_of_mem _ hz)
    simpa using h1.append h2
theorem Row.flat {w : World} {g t d : Nat} {cs : Array Value} {ys : List Val} (h : Blk w g t cs) (hc : cs.toList = ys.flatMap fun y => vcells y none 0 none 0) (hy : ∀ y ∈ ys, flatV y) (hd : 0 < d) (hl : ys.length ≤ 4294967296) : Row w (fun b => b = g) d (some ⟨g, 0, none⟩) ys := by
  have h1 := h.rd
  rw [hc] at h1
  exact RVs.iff.2 ⟨hl, _, h1, VL.flat hd ys hy⟩
theorem Rows.build {w : World} {S : Nat → Prop} {g t d : Nat} {cs : Array Value} {rs : List (List Val)} (h : Blk w g t cs) (hs : cs.size = rs.length) (hg : S g) (hl : rs.length ≤ 4294967296)
    (hr : ∀ (i : Nat) (r : List Val), rs[i]? = some r → ∃ B e, cs[i]? = some (Value.slice B r.length e) ∧ r.length ≤ e ∧ Row w S d B r) : Rows w S d (some ⟨g, 0, none⟩) rs := by
  refine ⟨hl, cs.toList, h.rd.mono (fun i _ hi => hi ▸ hg), by simpa using hs, fun i r hi => ?_⟩
  obtain ⟨B, e, h1, h2, h3⟩ := hr i r hi
  exact ⟨B, e, by simpa using h1, h2, h3⟩
theorem Strs.of_blk {w : World} {g t : Nat} {cs : Array Value} {l : List ByteArray} (h : Blk w g t cs) (hc : cs.toList = l.map Value.string) (hl : l.length ≤ 4294967296) (hs : ∀ s ∈ l, s.size ≤ 4294967296) : Strs w (fun b => b = g) (some ⟨g, 0, none⟩) l := by
  have h1 := h.rd
  rw [hc] at h1
  exact ⟨h1, hl, hs⟩
def RetL (w : World) (t : Look) (e : Ending) (w' : World) : Prop := ∃ A c B e', e = .returned (.agg #[.string t.name, .slice A t.cols.length c, .slice B t.rows.length e']) ∧ (t.cols.length ≤ c ∧ t.rows.length ≤ e') ∧ RL w' (Fresh w) 1 t A B ∧ Ext w w'
end Go.Proofs.YtcmmkeiiapbgcaaGreatDoor
/- The relation of worlds that the linear law of drawn regions is used with: what was there stays, but for the variables that the region itself makes. No conditions. -/
namespace Go.Proofs.YtcmmkeiiapbgcaaGreatDoor
open Go Go.RowKit

def AllSteps (F : Nat → Oper → Prop) : List Oper → Nat → Prop
  | [], _ => True
  | o :: l, k => F k o ∧ AllSteps F l (k + 1)
theorem AllSteps.at_ {F : Nat → Oper → Prop} : ∀ {l : List Oper} {k : Nat}, AllSteps F l k → ∀ i o, l[i]? = some o → F (k + i) o
  | [], _, _, _, _, h => by simp at h
  | o :: l, k, h, 0, o', hi => by simp at hi; subst hi; exact h.1
  | o :: l, k, h, i + 1, o', hi => by have := h.2.at_ i o' (by simpa using hi); rwa [show k + 1 + i = k + (i + 1) by omega] at this
theorem allSteps {F : Nat → Oper → Prop} {l : List Oper} (h : AllSteps F l 0) : ∀ i o, l.toArray[i]? = some o → F i o := fun i o hi => by
  have := h.at_ i o (by simpa using hi)
  rwa [Nat.zero_add] at this

theorem wp_region_lin_lit {Γ : Type} {P : Program} {l : List Oper} {Q : Exit → Act → World → Prop} {id : Nat} {a0 : Act} {w0 : World} (hm : P.follows .mixedOrders = true) (D : Nat → List Nat) (hB : linB l.toArray D a0.tmps.size = true)
    (R : Γ → World → Γ → World → Prop) (hrefl : ∀ γ w, R γ w γ w) (htrans : ∀ γ w γ' w' γ'' w'', R γ w γ' w' → R γ' w' γ'' w'' → R γ w γ'' w'')
    (N : Nat → Γ → Prop) (G : Nat → List Value → Γ → World → Prop) (hst : ∀ i l γ w γ' w', R γ w γ' w' → G i l γ w → G i l γ' w') (γ0 : Γ) (hN : ∀ i, N i γ0)
    (hstep : AllSteps (LinStep P l.toArray D R N G a0 γ0 w0.drew) l 0)
    (hfin : ∀ vals γ w, R γ0 w0.drew γ w → (∀ i, i < l.length → G i ((D i).map vals) γ w) → Q .normal (lexFrame vals l 0 a0) w) :
    (Code.region id l.toArray true).wp P Q a0 w0 :=
  wp_region_lin hm D hB R hrefl htrans N G hst γ0 hN (allSteps hstep) (fun vals γ w h1 h2 => hfin vals γ w h1 fun i hi => h2 i (by simpa using hi))
theorem LinStep.yes {Γ : Type} {P : Program} {ops : Array Oper} {D : Nat → List Nat} {R : Γ → World → Γ → World → Prop} {N : Nat → Γ → Prop} {G : Nat → List Value → Γ → World → Prop} {a0 : Act} {γ0 : Γ} {w0 : World} {i : Nat} {o : Oper}
    (h : ∀ (vals : Nat → Value) (γ : Γ) (w : World) (ρ : Operand → Value), R γ0 w0 γ w → N i γ → (∀ j, j ∈ predsOf o → G j ((D j).map vals) γ w) → (∀ t, ρ (.tmp t) = linLook ops o a0 vals t) → (∀ v, ρ (.const v) = v) → (∀ f, ρ (.func f) = .func (.func f) #[] #[]) → (∀ g, ρ (.global g) = .pointer (some ⟨g, 0, none⟩)) →
      linWanted o vals = true ∧ linUpon P (fun v w' => ∃ γ', R γ w γ' w' ∧ (∀ j, j ≠ i → j ∉ predsOf o → N j γ → N j γ') ∧ G i ((D i).map (setV vals i v)) γ' w') ((execOp ρ o).run P w)) : LinStep P ops D R N G a0 γ0 w0 i o := by
  intro vals γ w hR hN hp
  obtain ⟨h1, h2⟩ := h vals γ w (linEnv ops o a0 vals) hR hN hp (fun _ => rfl) (fun _ => rfl) (fun _ => rfl) (fun _ => rfl)
  rw [if_pos h1]
  exact h2
/-- Effects in a forced order: the ghost counts them; between two effects the world stays; 'Inv' holds at each count. -/
structure SR (Inv : Nat → World → Prop) (γ : Nat) (w : World) (γ' : Nat) (w' : World) : Prop where
  le : γ ≤ γ'
  eq : γ = γ' → w' = w
  inv : Inv γ w → Inv γ' w'
theorem SR.refl (Inv : Nat → World → Prop) (γ : Nat) (w : World) : SR Inv γ w γ w := ⟨Nat.le_refl _, fun _ => rfl, id⟩
theorem SR.trans (Inv : Nat → World → Prop) (γ : Nat) (w : World) (γ' : Nat) (w' : World) (γ'' : Nat) (w'' : World) (h : SR Inv γ w γ' w') (k : SR Inv γ' w' γ'' w'') : SR Inv γ w γ'' w'' :=
  ⟨Nat.le_trans h.le k.le, fun e => by
    have h1 := h.le
    have h2 := k.le
    rw [k.eq (by omega), h.eq (by omega)], fun hi => k.inv (h.inv hi)⟩
theorem SR.up {Inv : Nat → World → Prop} {γ : Nat} {w : World} {γ' : Nat} {w' : World} (h : γ < γ') (hi : Inv γ' w') : SR Inv γ w γ' w' := ⟨Nat.le_of_lt h, fun e => absurd e (Nat.ne_of_lt h), fun _ => hi⟩
/-- Operation i is still to come: fewer than 'st i' effects have come. -/
def SN (st : List Nat) (i γ : Nat) : Prop := γ < st.getD i 100
theorem SN.zero {st : List Nat} (h : st.all (fun s => decide (0 < s)) = true) (i : Nat) : SN st i 0 := by
  unfold SN
  rcases Nat.lt_or_ge i st.length with hi | hi
  · rw [show st.getD i 100 = st[i] by simp [hi]]
    have := List.all_eq_true.1 h _ (List.getElem_mem hi)
    simpa using this
  · rw [show st.getD i 100 = 100 by simp [List.getElem?_eq_none hi]]; omega
theorem SN.up {st : List Nat} {i s : Nat} {p : List Nat} (hs : s < 100) (h : ((List.range st.length).all fun j => decide (j = i) || p.contains j || decide (st.getD j 100 ≠ s)) = true) {γ : Nat} (hg : γ + 1 = s) : ∀ j, j ≠ i → j ∉ p → SN st j γ → SN st j s := by
  intro j hj hp hn
  unfold SN at hn ⊢
  rcases Nat.lt_or_ge j st.length with hl | hl
  · have := List.all_eq_true.1 h j (List.mem_range.2 hl)
    simp only [Bool.or_eq_true, decide_eq_true_eq, List.contains_iff_mem] at this
    rcases this with (h1 | h1) | h1
    · exact absurd h1 hj
    · exact absurd h1 hp
    · omega
  · rw [show st.getD j 100 = 100 by simp [List.getElem?_eq_none hl]]; omega
/-- What becomes of a variable that the region makes, by the number of its store: not yet made, made in this block, stored. -/
abbrev Gh := Nat → Option (Option Nat)
def gh0 : Gh := fun _ => none
def Gh.put (γ : Gh) (k : Nat) (x : Option Nat) : Gh := fun j => if j = k then some x else γ j
/-- The blocks of variables that wait for their store. -/
def Gh.V (γ : Gh) (b : Nat) : Prop := ∃ k, γ k = some (some b)
def Free (γ : Gh) (b : Nat) : Prop := ¬ γ.V b
/-- Of operation i, which is still to come: the variable that it stores is not stored; the variable that it makes is not made. 'al': the alloc of a store. -/
def LN (al : Nat → Option Nat) (i : Nat) (γ : Gh) : Prop := (∀ k, al i = some k → γ k ≠ some none) ∧ ((∃ s, al s = some i) → γ i = none)
structure LR (γ : Gh) (w : World) (γ' : Gh) (w' : World) : Prop where
  os : w'.os = w.os
  tape : w'.tape = w.tape
  output : w'.output = w.output
  size : w.heap.size ≤ w'.heap.size
  kept : ∀ b, b < w.heap.size → Free γ b → w'.heap[b]? = w.heap[b]?
  shape : ∀ b t cs, Blk w b t cs → ∃ cs', cs'.size = cs.size ∧ Blk w' b t cs'
  old : ∀ k b, γ' k = some (some b) → b < w.heap.size → γ k = some (some b)
  on : ∀ k b, γ k = some (some b) → γ' k = some (some b) ∨ γ' k = some none
  done : ∀ k, γ k = some none → γ' k = some none
  inb : (∀ k b, γ k = some (some b) → b < w.heap.size) → ∀ k b, γ' k = some (some b) → b < w'.heap.size
theorem LR.refl (γ : Gh) (w : World) : LR γ w γ w := ⟨rfl, rfl, rfl, Nat.le_refl _, fun _ _ _ => rfl, fun _ _ cs h => ⟨cs, rfl, h⟩, fun _ _ h _ => h, fun _ _ h => .inl h, fun _ h => h, fun h => h⟩
theorem LR.free {γ : Gh} {w : World} {γ' : Gh} {w' : World} (h : LR γ w γ' w') {b : Nat} (hb : b < w.heap.size) (hf : Free γ b) : Free γ' b := fun ⟨k, hk⟩ => hf ⟨k, h.old k b hk hb⟩
theorem LR.trans (γ : Gh) (w : World) (γ' : Gh) (w' : World) (γ'' : Gh) (w'' : World) (h : LR γ w γ' w') (k : LR γ' w' γ'' w'') : LR γ w γ'' w'' where
  os := k.os.trans h.os
  tape := k.tape.trans h.tape
  output := k.output.trans h.output
  size := Nat.le_trans h.size k.size
  kept b hb hf := (k.kept b (Nat.lt_of_lt_of_le hb h.size) (h.free hb hf)).trans (h.kept b hb hf)
  shape b t cs hc := by
    obtain ⟨c1, e1, h1⟩ := h.shape b t cs hc
    obtain ⟨c2, e2, h2⟩ := k.shape b t c1 h1
    exact ⟨c2, e2.trans e1, h2⟩
  old i b hi hb := h.old i b (k.old i b hi (Nat.lt_of_lt_of_le hb h.size)) hb
  on i b hi := by
    rcases h.on i b hi with h1 | h1
    · exact k.on i b h1
    · exact .inr (k.done i h1)
  done i hi := k.done i (h.done i hi)
  inb hi := k.inb (h.inb hi)
theorem LR.of_ext (γ : Gh) {w w' : World} (h : Ext w w') : LR γ w γ w' :=
  ⟨h.os, h.tape, h.output, h.size, fun b hb _ => h.block b hb, fun _b _t cs hc => ⟨cs, rfl, hc.keep (h.kept _)⟩, fun _ _ h _ => h, fun _ _ h => .inl h, fun _ h => h, fun hi i b hb => Nat.lt_of_lt_of_le (hi i b hb) h.size⟩
theorem LR.ext {w : World} {γ : Gh} {w' : World} (h : LR gh0 w γ w') : Ext w w' := ⟨h.os, h.tape, h.output, h.size, fun b hb => h.kept b hb (fun ⟨k, hk⟩ => by cases hk)⟩
theorem LR.drew_ext {w : World} {γ : Gh} {w' : World} (h : LR gh0 w.drew γ w') : Ext w w' := (Ext.refl w).drew.trans h.ext
theorem LR.new {γ : Gh} {k : Nat} (hk : γ k = none) (w : World) (o : Obj) : LR γ w (γ.put k (some w.heap.size)) (w.alloc o) := by
  have h := (Ext.refl w).alloc o
  refine ⟨h.os, h.tape, h.output, h.size, fun b hb _ => h.block b hb, fun b t cs hc => ⟨cs, rfl, hc.keep (h.kept _)⟩, ?_, ?_, ?_, ?_⟩
  · intro j b hj hb
    unfold Gh.put at hj
    split at hj
    · simp at hj; omega
    · exact hj
  · intro j b hj
    left
    unfold Gh.put
    rw [if_neg (fun e => by subst e; rw [hk] at hj; cases hj)]
    exact hj
  · intro j hj
    unfold Gh.put
    rw [if_neg (fun e => by subst e; rw [hk] at hj; cases hj)]
    exact hj
  · intro hi j b hj
    unfold Gh.put at hj
    split at hj
    · simp at hj; subst hj; simp
    · have := hi j b hj; simp; omega
theorem LR.inb0 {w : World} {γ : Gh} {w' : World} (h : LR gh0 w γ w') : ∀ k b, γ k = some (some b) → b < w'.heap.size := h.inb fun k b hk => by cases hk
theorem LN.zero (al : Nat → Option Nat) (i : Nat) : LN al i gh0 := ⟨fun _ _ h => (by cases h), fun _ => rfl⟩
theorem LN.made {al : Nat → Option Nat} {γ : Gh} {i : Nat} {x : Nat} {p : List Nat} : ∀ j, j ≠ i → j ∉ p → LN al j γ → LN al j (γ.put i (some x)) := by
  rintro j hj - ⟨h1, h2⟩
  refine ⟨fun k hk => ?_, fun hs => ?_⟩
  · unfold Gh.put
    split
    · simp
    · exact h1 k hk
  · unfold Gh.put
    rw [if_neg hj]
    exact h2 hs
theorem LN.stored {al : Nat → Option Nat} (inj : ∀ j s k, al j = some k → al s = some k → j = s) {γ : Gh} {s k g : Nat} (hs : al s = some k) (hk : γ k = some (some g)) {p : List Nat} : ∀ j, j ≠ s → j ∉ p → LN al j γ → LN al j (γ.put k none) := by
  rintro j hj - ⟨h1, h2⟩
  refine ⟨fun k' hk' => ?_, fun hs' => ?_⟩
  · unfold Gh.put
    rw [if_neg (fun e => by subst e; exact hj (inj _ _ _ hk' hs))]
    exact h1 k' hk'
  · unfold Gh.put
    rw [if_neg (fun e => by subst e; rw [h2 hs'] at hk; cases hk)]
    exact h2 hs'
def al0 : Nat → Option Nat := fun _ => none
def al1 (s k : Nat) : Nat → Option Nat := fun j => if j = s then some k else none
theorem al0_inj : ∀ j s k, al0 j = some k → al0 s = some k → j = s := fun _ _ _ h => by cases h
theorem al1_inj {s k : Nat} : ∀ j s' k', al1 s k j = some k' → al1 s k s' = some k' → j = s' := by
  intro j s' k' h h'
  unfold al1 at h h'
  split at h
  · split at h'
    · omega
    · cases h'
  · cases h
/-- Only the block g has changed. -/
structure Only (g : Nat) (w w' : World) : Prop where
  os : w'.os = w.os
  tape : w'.tape = w.tape
  output : w'.output = w.output
  size : w'.heap.size = w.heap.size
  block : ∀ b, b ≠ g → w'.heap[b]? = w.heap[b]?
theorem Only.refl (g : Nat) (w : World) : Only g w w := ⟨rfl, rfl, rfl, rfl, fun _ _ => rfl⟩
theorem Only.set {g : Nat} {w w' : World} (h : Only g w w') (i : Nat) (u : Value) : Only g w (w'.setCell ⟨g, i, none⟩ u) :=
  ⟨h.os, h.tape, h.output, by simp [World.setCell, h.size], fun b hb => (Below.heap_setCell _ _ _ _ hb).trans (h.block b hb)⟩
theorem LR.store {γ : Gh} {w w' : World} {k g t : Nat} {cs cs' : Array Value} (hk : γ k = some (some g)) (hu : ∀ j, γ j = some (some g) → j = k) (ho : Only g w w') (hb : Blk w g t cs) (hb' : Blk w' g t cs') (hs : cs'.size = cs.size) :
    LR γ w (γ.put k none) w' := by
  refine ⟨ho.os, ho.tape, ho.output, Nat.le_of_eq ho.size.symm, fun b _ hf => ho.block b (fun e => hf ⟨k, by rw [hk, e]⟩), ?_, ?_, ?_, ?_, ?_⟩
  · intro b t' c hc
    by_cases hbg : b = g
    · subst hbg
      have := hb.symm.trans hc
      simp at this
      obtain ⟨rfl, rfl⟩ := this
      exact ⟨cs', hs, hb'⟩
    · exact ⟨c, rfl, (ho.block b hbg).trans hc⟩
  · intro j b hj _
    unfold Gh.put at hj
    split at hj
    · cases hj
    · exact hj
  · intro j b hj
    unfold Gh.put
    split
    · exact .inr rfl
    · exact .inl hj
  · intro j hj
    unfold Gh.put
    split
    · rfl
    · exact hj
  · intro hi j b hj
    unfold Gh.put at hj
    split at hj
    · cases hj
    · rw [ho.size]; exact hi j b hj
section
variable {γ γ' : Gh} {w w' : World} {A B : Option Addr} {d : Nat} {x : Val}
theorem LR.keptS (h : LR γ w γ' w') {S : Nat → Prop} (hS : ∀ b, b < w.heap.size → S b → Free γ b) : Kept S w w' := ⟨h.size, fun b hs hb => h.kept b hb (hS b hb hs)⟩
theorem LR.rv (h : LR γ w γ' w') (k : RV w (Free γ) d x A B) : RV w' (Free γ') d x A B := by
  have h1 : RV w (fun b => Free γ b ∧ Free γ' b) d x A B := k.mono fun b hb hf => ⟨hf, h.free hb hf⟩
  exact (h1.keep (h.keptS fun _ _ hb => hb.1)).mono fun _ _ hb => hb.2
theorem LR.strs {l : List ByteArray} (h : LR γ w γ' w') (k : Strs w (Free γ) A l) : Strs w' (Free γ') A l := by
  have h1 : Strs w (fun b => Free γ b ∧ Free γ' b) A l := k.mono fun b hb hf => ⟨hf, h.free hb hf⟩
  exact (h1.keep (h.keptS fun _ _ hb => hb.1)).mono fun _ _ hb => hb.2
theorem LR.rows {l : List (List Val)} (h : LR γ w γ' w') (k : Rows w (Free γ) d A l) : Rows w' (Free γ') d A l := by
  have h1 : Rows w (fun b => Free γ b ∧ Free γ' b) d A l := k.mono fun b hb hf => ⟨hf, h.free hb hf⟩
  exact (h1.keep (h.keptS fun _ _ hb => hb.1)).mono fun _ _ hb => hb.2
theorem LR.cell (h : LR γ w γ' w') {p : Addr} {u : Value} (hf : Free γ p.block) (hc : w.cell? p = some u) : w'.cell? p = some u := by
  have hp : p.block < w.heap.size := by
    unfold World.cell? at hc
    rcases Nat.lt_or_ge p.block w.heap.size with h1 | h1
    · exact h1
    · rw [Array.getElem?_eq_none h1] at hc; cases hc
  rw [World.cell?_of_block (w := w) (h.kept p.block hp hf)]
  exact hc
theorem LR.blk (h : LR γ w γ' w') {g t : Nat} {cs : Array Value} (hf : Free γ g) (hc : Blk w g t cs) : Blk w' g t cs := hc.keep (h.keptS fun b _ e => by subst e; exact hf)
/-- The value of an alloc: a variable of type t and n cells, to be stored by operation k. -/
def VarAt (k t n : Nat) (v : Value) (γ : Gh) (w : World) : Prop := ∃ g cs, v = .pointer (some ⟨g, 0, none⟩) ∧ cs.size = n ∧ Blk w g t cs ∧ (γ k = some (some g) ∨ γ k = some none) ∧ ∀ j, γ j = some (some g) → j = k
theorem VarAt.lr {k t n : Nat} {v : Value} (r : LR γ w γ' w') (h : VarAt k t n v γ w) : VarAt k t n v γ' w' := by
  obtain ⟨g, cs, h1, h2, h3, h4, h5⟩ := h
  obtain ⟨cs', e, h6⟩ := r.shape g t cs h3
  refine ⟨g, cs', h1, e.trans h2, h6, ?_, fun j hj => h5 j (r.old j g hj h3.lt)⟩
  rcases h4 with h4 | h4
  · exact r.on k g h4
  · exact .inr (r.done k h4)
/-- The variable's block behind its store. -/
def VarIs (t : Nat) (v : Value) (cs : Array Value) (γ : Gh) (w : World) : Prop := ∃ g, v = .pointer (some ⟨g, 0, none⟩) ∧ Blk w g t cs ∧ Free γ g
theorem VarIs.lr {t : Nat} {v : Value} {cs : Array Value} (r : LR γ w γ' w') (h : VarIs t v cs γ w) : VarIs t v cs γ' w' := by
  obtain ⟨g, h1, h2, h3⟩ := h
  exact ⟨g, h1, r.blk h3 h2, r.free h2.lt h3⟩
theorem VarAt.new {k t n : Nat} (hf : ∀ j b, γ j = some (some b) → b < w.heap.size) {cs : Array Value} (hn : cs.size = n) : VarAt k t n (.pointer (some ⟨w.heap.size, 0, none⟩)) (γ.put k (some w.heap.size)) (w.alloc (.cells cs t)) := by
  refine ⟨_, cs, rfl, hn, Blk.new w t cs, .inl (by simp [Gh.put]), fun j hj => ?_⟩
  unfold Gh.put at hj
  split at hj
  · assumption
  · have := hf j _ hj
    omega
theorem VarAt.stored {al : Nat → Option Nat} {s k t n : Nat} {v : Value} (h : VarAt k t n v γ w) (hs : al s = some k) (hn : LN al s γ) :
    ∃ g cs, v = .pointer (some ⟨g, 0, none⟩) ∧ cs.size = n ∧ Blk w g t cs ∧ γ k = some (some g) ∧ ∀ w' cs', Only g w w' → Blk w' g t cs' → cs'.size = n → LR γ w (γ.put k none) w' ∧ VarIs t v cs' (γ.put k none) w' := by
  obtain ⟨g, cs, h1, h2, h3, h4, h5⟩ := h
  have hk : γ k = some (some g) := by
    rcases h4 with h4 | h4
    · exact h4
    · exact absurd h4 (hn.1 k hs)
  refine ⟨g, cs, h1, h2, h3, hk, fun w' cs' ho hb he => ⟨LR.store hk h5 ho h3 hb (he.trans h2.symm), g, h1, hb, ?_⟩⟩
  rintro ⟨j, hj⟩
  unfold Gh.put at hj
  split at hj
  · cases hj
  · rename_i hne
    exact hne (h5 j hj)
theorem arr7 {cs : Array Value} (h : cs.size = 7) (a0 a1 a2 a3 a4 a5 a6 : Value) : ((((((cs.setIfInBounds 0 a0).setIfInBounds 1 a1).setIfInBounds 2 a2).setIfInBounds 3 a3).setIfInBounds 4 a4).setIfInBounds 5 a5).setIfInBounds 6 a6 = #[a0, a1, a2, a3, a4, a5, a6] := by
  obtain ⟨l⟩ := cs
  match l, h with
  | [_, _, _, _, _, _, _], _ => rfl
theorem VarAt.store7 {al : Nat → Option Nat} {s k t : Nat} {v : Value} (h : VarAt k t 7 v γ w) (hs : al s = some k) (hn : LN al s γ) :
    ∃ g, v = .pointer (some ⟨g, 0, none⟩) ∧ (∃ cs, cs.size = 7 ∧ Blk w g t cs) ∧ γ k = some (some g) ∧ ∀ a0 a1 a2 a3 a4 a5 a6, LR γ w (γ.put k none) (((((((w.setCell ⟨g, 0, none⟩ a0).setCell ⟨g, 1, none⟩ a1).setCell ⟨g, 2, none⟩ a2).setCell ⟨g, 3, none⟩ a3).setCell ⟨g, 4, none⟩ a4).setCell ⟨g, 5, none⟩ a5).setCell ⟨g, 6, none⟩ a6) ∧
      VarIs t v #[a0, a1, a2, a3, a4, a5, a6] (γ.put k none) (((((((w.setCell ⟨g, 0, none⟩ a0).setCell ⟨g, 1, none⟩ a1).setCell ⟨g, 2, none⟩ a2).setCell ⟨g, 3, none⟩ a3).setCell ⟨g, 4, none⟩ a4).setCell ⟨g, 5, none⟩ a5).setCell ⟨g, 6, none⟩ a6) := by
  obtain ⟨g, cs, h1, h2, h3, h4, h5⟩ := h.stored hs hn
  refine ⟨g, h1, ⟨cs, h2, h3⟩, h4, fun a0 a1 a2 a3 a4 a5 a6 => h5 _ _ (((((((Only.refl g w).set 0 a0).set 1 a1).set 2 a2).set 3 a3).set 4 a4).set 5 a5 |>.set 6 a6) ?_ rfl⟩
  have := ((((((h3.set 0 a0).set 1 a1).set 2 a2).set 3 a3).set 4 a4).set 5 a5).set 6 a6
  rwa [arr7 h2] at this
theorem blk7 {g t : Nat} (h : ∃ cs, cs.size = 7 ∧ Blk w g t cs) : (∃ x0 x1 x2 x3 x4 x5 x6, w.cell? ⟨g, 0, none⟩ = some x0 ∧ w.cell? ⟨g, 1, none⟩ = some x1 ∧ w.cell? ⟨g, 2, none⟩ = some x2 ∧ w.cell? ⟨g, 3, none⟩ = some x3 ∧ w.cell? ⟨g, 4, none⟩ = some x4 ∧ w.cell? ⟨g, 5, none⟩ = some x5 ∧ w.cell? ⟨g, 6, none⟩ = some x6) ∧ (∀ i, w.frozen? ⟨g, i, none⟩ = false) ∧ g < w.heap.size := by
  obtain ⟨⟨l⟩, h1, h2⟩ := h
  match l, h1 with
  | [x0, x1, x2, x3, x4, x5, x6], _ => exact ⟨⟨x0, x1, x2, x3, x4, x5, x6, h2.cell rfl, h2.cell rfl, h2.cell rfl, h2.cell rfl, h2.cell rfl, h2.cell rfl, h2.cell rfl⟩, h2.frozen, h2.lt⟩
end
end Go.Proofs.YtcmmkeiiapbgcaaGreatDoor
/- The reference's reader of numbers: Next. Conditions: the numbers read as data, and lie apart from the reader. -/
namespace Go.Proofs.YtcmmkeiiapbgcaaGreatDoor
open Go Go.RowKit

theorem Only.drew {g : Nat} {w w' : World} (h : Only g w w') : Only g w w'.drew := ⟨h.os, h.tape, h.output, h.size, h.block⟩
theorem Only.drewN {g : Nat} {w w' : World} (h : Only g w w') (n : Nat) : Only g w (w'.drewN n) := ⟨h.os, h.tape, h.output, h.size, h.block⟩
theorem Only.trans {g : Nat} {w w' w'' : World} (h : Only g w w') (k : Only g w' w'') : Only g w w'' := ⟨k.os.trans h.os, k.tape.trans h.tape, k.output.trans h.output, k.size.trans h.size, fun b hb => (k.block b hb).trans (h.block b hb)⟩
theorem Only.kept {g : Nat} {w w' : World} (h : Only g w w') {S : Nat → Prop} (hS : ∀ b, b < w.heap.size → S b → b ≠ g) : Kept S w w' := ⟨Nat.le_of_eq h.size.symm, fun b hb hl => h.block b (hS b hl hb)⟩
theorem Only.below {g B : Nat} {w w' : World} (h : Only g w w') (hB : B ≤ g) : Below B w w' := ⟨h.os, h.tape, h.output, Nat.le_of_eq h.size.symm, fun b hb => h.block b (by omega)⟩
theorem Ext.only {g : Nat} {a w w' : World} (h : Ext a w) (k : Only g w w') (hg : a.heap.size ≤ g) : Ext a w' := Below.trans h (k.below hg)
/-- Ints that came in: as many as memory holds. -/
def IntsL (w : World) (S : Nat → Prop) (A : Option Addr) (l : List Int) : Prop := Rd w S A (l.map (Value.int .i64)) ∧ l.length ≤ 9223372036854775807
theorem IntsL.keep {w w' : World} {S : Nat → Prop} {A : Option Addr} {l : List Int} (h : IntsL w S A l) (k : Kept S w w') : IntsL w' S A l := ⟨h.1.keep k, h.2⟩
theorem IntsL.mono {w : World} {S T : Nat → Prop} {A : Option Addr} {l : List Int} (h : IntsL w S A l) (k : ∀ i, i < w.heap.size → S i → T i) : IntsL w T A l := ⟨h.1.mono k, h.2⟩
theorem IntsL.at_ {w : World} {S : Nat → Prop} {A : Option Addr} {l : List Int} (h : IntsL w S A l) {k : Nat} (hk : k < l.length) : ∃ b o, A = some ⟨b, o, none⟩ ∧ b < w.heap.size ∧ w.cell? ⟨b, o + k, none⟩ = some (.int .i64 l[k]) :=
  h.1.at_ (by simp [hk])
/-- Rows of ints that came in. -/
def RIssL (w : World) (S : Nat → Prop) (A : Option Addr) (l : List (List Int)) : Prop :=
  l.length ≤ 9223372036854775807 ∧ ∃ hs : List Value, Rd w S A hs ∧ hs.length = l.length ∧ ∀ (i : Nat) (r : List Int), l[i]? = some r → ∃ (B : Option Addr) (e : Nat), hs[i]? = some (.slice B r.length e) ∧ r.length ≤ e ∧ IntsL w S B r
theorem RIssL.keep {w w' : World} {S : Nat → Prop} {A : Option Addr} {l : List (List Int)} (h : RIssL w S A l) (k : Kept S w w') : RIssL w' S A l := by
  obtain ⟨h0, hs, h1, h2, h3⟩ := h
  refine ⟨h0, hs, h1.keep k, h2, fun i r hr => ?_⟩
  obtain ⟨B, e, g1, g2, g3⟩ := h3 i r hr
  exact ⟨B, e, g1, g2, g3.keep k⟩
theorem RIssL.at_ {w : World} {S : Nat → Prop} {A : Option Addr} {l : List (List Int)} (h : RIssL w S A l) {k : Nat} (hk : k < l.length) :
    ∃ b o B e, A = some ⟨b, o, none⟩ ∧ b < w.heap.size ∧ w.cell? ⟨b, o + k, none⟩ = some (.slice B l[k].length e) ∧ l[k].length ≤ e ∧ IntsL w S B l[k] := by
  obtain ⟨_, hs, h1, h2, h3⟩ := h
  obtain ⟨B, e, g1, g2, g3⟩ := h3 k l[k] (List.getElem?_eq_getElem hk)
  obtain ⟨b, o, hA, hb, hc⟩ := h1.at_ g1
  exact ⟨b, o, B, e, hA, hb, hc, g2, g3⟩
/-- The reader: its numbers, and how many were read. -/
def NumIs (w : World) (g : Nat) (A : Option Addr) (n c K : Nat) : Prop := Blk w g 73 #[.slice A n c, .int .i64 (K : Int)] ∧ K ≤ n
theorem NumIs.keep {w w' : World} {g : Nat} {A : Option Addr} {n c K : Nat} (h : NumIs w g A n c K) (k : Kept (fun b => b = g) w w') : NumIs w' g A n c K := ⟨h.1.keep k, h.2⟩
def RetN (w : World) (g : Nat) (A : Option Addr) (len c : Nat) (n : Int) (e : Ending) (w' : World) : Prop := ∃ (r : Int) (K : Nat), e = .returned (.int .i64 r) ∧ 0 ≤ r ∧ r < n ∧ NumIs w' g A len c K ∧ Only g w w'
theorem next_bd (a n : Int) (hn : 1 ≤ n) : -n < a.tmod n ∧ a.tmod n < n := by
  have h1 := Int.tmod_lt_of_pos a (b := n) (by omega)
  have h2 := Int.tmod_lt_of_pos (-a) (b := n) (by omega)
  rw [Int.neg_tmod] at h2
  omega
theorem next_r (a n : Int) (hn : 1 ≤ n) : 0 ≤ (a.tmod n + n).tmod n ∧ (a.tmod n + n).tmod n < n := by
  obtain ⟨h1, h2⟩ := next_bd a n hn
  rw [Int.tmod_eq_emod_of_nonneg (by omega)]
  exact ⟨Int.emod_nonneg _ (by omega), Int.emod_lt_of_pos _ (by omega)⟩
set_option maxRecDepth 100000 in
set_option maxHeartbeats 400000 in
theorem Num_Next (n : Int) (g : Nat) (A : Option Addr) (l : List Int) (c K : Nat) (w : World) (S : Nat → Prop) (hn1 : 1 ≤ n) (hn2 : n ≤ 4000000000000000) (hm : NumIs w g A l.length c K) (hl : IntsL w S A l) (hS : ¬ S g) :
    Calls Tryz.prog 42 #[.pointer (some ⟨g, 0, none⟩), .int .i64 n] w (RetN w g A l.length c n) := by
  have hlen := hl.2
  have hK := hm.2
  have k0 := hm.1.cell (i := 0) rfl
  have k1 := hm.1.cell (i := 1) rfl
  have kf := hm.1.frozen
  have kz := hm.1.lt
  have HM := Lib.hid hm
  have HL := Lib.hid hl
  clear hm hl
  by_cases hlt : K < l.length
  · obtain ⟨b, o, rfl, hb, hc⟩ := HL.out.at_ hlt
    have hbg : b ≠ g := by
      rcases HL.out.1 with h | ⟨b', o', h1, h2, _⟩
      · rw [List.map_eq_nil_iff] at h; subst h; simp at hlt
      · injection h1 with h1; injection h1 with h1; subst h1; rintro rfl; exact hS h2
    have hge : decide (l.length ≤ K) = false := by simpa using hlt
    have hnn : decide (n < 1) = false := by simpa using hn1
    obtain ⟨r1, r2⟩ := next_r l[K] n hn1
    obtain ⟨b1, b2⟩ := next_bd l[K] n hn1
    go_enter Tryz.func42, Tryz.ntmps42
    go_wp2
    go_quiet (fail)
    go_wp2
    obtain ⟨w2, hw2⟩ : ∃ w2, w2 = (w.drewN nq).setCell ⟨g, 1, none⟩ (.int .i64 ((K : Int) + 1)) := ⟨_, rfl⟩
    rw [← hw2]
    have ho : Only g w w2 := by rw [hw2]; exact ((Only.refl g w).drewN nq).set _ _
    have hb2 : Blk w2 g 73 #[.slice (some ⟨b, o, none⟩) l.length c, .int .i64 ((K : Int) + 1)] := by
      rw [hw2]
      exact (HM.out.1.keep (Kept.drewN _ _ _)).set 1 _
    have hc2 : w2.cell? ⟨b, o + K, none⟩ = some (.int .i64 l[K]) := (World.cell?_of_block (w := w) (ho.block b hbg)).trans hc
    clear hw2 k0 k1 kf hc
    have k0 := hb2.cell (i := 0) rfl
    have k1 := hb2.cell (i := 1) rfl
    have HO := Lib.hid ho
    have HB2 := Lib.hid hb2
    clear ho hb2 HM HL
    have q1 : IntKind.i64.wrap ((K : Int) + 1 - 1) = (K : Int) := by rw [IntWalk.i64_in _ (by omega)]; omega
    have q2 : (0 : Int) ≤ (K : Int) := by omega
    have q3 : (K : Int) < (l.length : Int) := by omega
    have q4 : IntKind.i64.wrap (l[K].tmod n) = l[K].tmod n := IntWalk.i64_in _ (by omega)
    have q5 : IntKind.i64.wrap (l[K].tmod n + n) = l[K].tmod n + n := IntWalk.i64_in _ (by omega)
    have q6 : IntKind.i64.wrap ((l[K].tmod n + n).tmod n) = (l[K].tmod n + n).tmod n := IntWalk.i64_in _ (by omega)
    have q7 : (n == 0) = false := by simp; omega
    go_quiet (fail)
    go_wp2
    go_ret
    refine ⟨_, K + 1, rfl, Int.emod_nonneg _ (by omega), Int.emod_lt_of_pos _ (by omega), ⟨?_, by omega⟩, HO.out.drewN _⟩
    have := fun m => HB2.out.keep (w' := w2.drewN m) (Kept.drewN _ _ _)
    rw [show (((K + 1 : Nat)) : Int) = (K : Int) + 1 by omega]
    exact this _
  · have hge : decide (l.length ≤ K) = true := by simpa using hlt
    clear hlt
    go_enter Tryz.func42, Tryz.ntmps42
    go_wp2
    go_quiet (fail)
    go_wp2
    go_ret
    exact ⟨0, K, rfl, Int.le_refl _, by omega, HM.out.keep (Kept.drewN _ _ _), (Only.refl g w).drewN _⟩
end Go.Proofs.YtcmmkeiiapbgcaaGreatDoor
/- The law's table of cities. No conditions. -/
namespace Go.Proofs.YtcmmkeiiapbgcaaGreatDoor
open Go Go.RowKit

def sCity : ByteArray := ⟨#[99, 105, 116, 121]⟩
def sZip : ByteArray := ⟨#[122, 105, 112]⟩
def sCountry : ByteArray := ⟨#[99, 111, 117, 110, 116, 114, 121]⟩
def rowC (ys : List Val) : Array Value := (ys.flatMap fun y => vcells y none 0 none 0).toArray
def citiesT : Look := ⟨⟨#[116]⟩, [sCity, sZip, sCountry], [[textV ⟨#[82, 111, 109, 101]⟩, numV 1 0, textV ⟨#[105, 116]⟩], [textV ⟨#[79, 115, 108, 111]⟩, numV 2 0, textV ⟨#[110, 111]⟩], [textV ⟨#[66, 101, 114, 103, 101, 110]⟩, numV 3 0, textV ⟨#[110, 111]⟩]]⟩
theorem flat_text (s : ByteArray) (h : s.size ≤ 4294967296) : flatV (textV s) := ⟨rfl, rfl, h⟩
theorem flat_num (n s : Int) : flatV (numV n s) := ⟨rfl, rfl, by show (0 : Nat) ≤ 4294967296; omega⟩

theorem row3 (a b : ByteArray) (n : Int) (ha : a.size ≤ 4294967296) (hb : b.size ≤ 4294967296) {w : World} {g t : Nat} (h : Blk w g t (rowC [textV a, numV n 0, textV b])) : Row w (fun b => b = g) 1 (some ⟨g, 0, none⟩) [textV a, numV n 0, textV b] := by
  refine Row.flat h rfl (fun y hy => ?_) (by omega) (by simp)
  simp only [List.mem_cons, List.not_mem_nil, or_false] at hy
  rcases hy with rfl | rfl | rfl
  · exact flat_text _ ha
  · exact flat_num _ _
  · exact flat_text _ hb
theorem cities_mem {v : World} {k1 a b : Nat} {S : Nat → Prop} (B1 : Blk v k1 9 #[.string sCity, .string sZip, .string sCountry]) (C1 : Blk v a 33 (rowC [textV ⟨#[82, 111, 109, 101]⟩, numV 1 0, textV ⟨#[105, 116]⟩])) (C2 : Blk v b 33 (rowC [textV ⟨#[79, 115, 108, 111]⟩, numV 2 0, textV ⟨#[110, 111]⟩]))
    (h1 : S k1) (h2 : S a) (h3 : S b) (h4 : S v.heap.size) (h5 : S (v.heap.size + 1)) :
    RL ((v.alloc (.cells (rowC [textV ⟨#[66, 101, 114, 103, 101, 110]⟩, numV 3 0, textV ⟨#[110, 111]⟩]) 33)).alloc (.cells #[.slice (some ⟨a, 0, none⟩) 3 3, .slice (some ⟨b, 0, none⟩) 3 3, .slice (some ⟨v.heap.size, 0, none⟩) 3 3] 45)) S 1 citiesT (some ⟨k1, 0, none⟩) (some ⟨v.heap.size + 1, 0, none⟩) := by
  have x : Ext v ((v.alloc (.cells (rowC [textV ⟨#[66, 101, 114, 103, 101, 110]⟩, numV 3 0, textV ⟨#[110, 111]⟩]) 33)).alloc (.cells #[.slice (some ⟨a, 0, none⟩) 3 3, .slice (some ⟨b, 0, none⟩) 3 3, .slice (some ⟨v.heap.size, 0, none⟩) 3 3] 45)) := ((Ext.refl v).alloc _).alloc _
  have C3 := (Blk.new v 33 (rowC [textV ⟨#[66, 101, 114, 103, 101, 110]⟩, numV 3 0, textV ⟨#[110, 111]⟩])).keep (Kept.alloc _ _ (.cells #[.slice (some ⟨a, 0, none⟩) 3 3, .slice (some ⟨b, 0, none⟩) 3 3, .slice (some ⟨v.heap.size, 0, none⟩) 3 3] 45))
  have D := Blk.new (v.alloc (.cells (rowC [textV ⟨#[66, 101, 114, 103, 101, 110]⟩, numV 3 0, textV ⟨#[110, 111]⟩]) 33)) 45 #[.slice (some ⟨a, 0, none⟩) 3 3, .slice (some ⟨b, 0, none⟩) 3 3, .slice (some ⟨v.heap.size, 0, none⟩) 3 3]
  rw [show (v.alloc (.cells (rowC [textV ⟨#[66, 101, 114, 103, 101, 110]⟩, numV 3 0, textV ⟨#[110, 111]⟩]) 33)).heap.size = v.heap.size + 1 by simp] at D
  refine ⟨by decide, (Strs.of_blk (B1.keep (x.kept _)) rfl (by decide) (by decide)).mono (fun i _ hi => hi ▸ h1), Rows.build D rfl h5 (by decide) ?_⟩
  intro i r hi
  match i, hi with
  | 0, hi => cases hi; exact ⟨_, 3, rfl, Nat.le_refl _, (row3 _ _ _ (by decide) (by decide) (C1.keep (x.kept _))).mono (fun i _ hi => hi ▸ h2)⟩
  | 1, hi => cases hi; exact ⟨_, 3, rfl, Nat.le_refl _, (row3 _ _ _ (by decide) (by decide) (C2.keep (x.kept _))).mono (fun i _ hi => hi ▸ h3)⟩
  | 2, hi => cases hi; exact ⟨_, 3, rfl, Nat.le_refl _, (row3 _ _ _ (by decide) (by decide) C3).mono (fun i _ hi => hi ▸ h4)⟩
  | n + 3, hi => simp [citiesT] at hi

set_option maxRecDepth 100000 in
set_option maxHeartbeats 1000000 in
theorem law_cities (w : World) : Calls Tryz.prog 37 #[] w (RetL w citiesT) := by
  go_enter Tryz.func37, Tryz.ntmps37
  go_wp2_with fail
  refine (law_text _ _).mono ?_
  rintro e1 w1 ⟨rfl, hx1⟩
  have HX1 := Lib.hid hx1
  have hs1 := hx1.size
  clear hx1
  go_wp2_with fail
  refine (law_number _ _).mono ?_
  rintro e2 w2 ⟨rfl, hx2⟩
  have HX2 := Lib.hid hx2
  have hs2 := hx2.size
  clear hx2
  go_wp2_with fail
  refine (law_text _ _).mono ?_
  rintro e3 w3 ⟨rfl, hx3⟩
  have HX3 := Lib.hid hx3
  have hs3 := hx3.size
  clear hx3
  go_wp2_with fail
  refine (law_text _ _).mono ?_
  rintro e4 w4 ⟨rfl, hx4⟩
  have HX4 := Lib.hid hx4
  have hs4 := hx4.size
  clear hx4
  go_wp2_with fail
  refine (law_number _ _).mono ?_
  rintro e5 w5 ⟨rfl, hx5⟩
  have HX5 := Lib.hid hx5
  have hs5 := hx5.size
  clear hx5
  go_wp2_with fail
  refine (law_text _ _).mono ?_
  rintro e6 w6 ⟨rfl, hx6⟩
  have HX6 := Lib.hid hx6
  have hs6 := hx6.size
  clear hx6
  go_wp2_with fail
  refine (law_text _ _).mono ?_
  rintro e7 w7 ⟨rfl, hx7⟩
  have HX7 := Lib.hid hx7
  have hs7 := hx7.size
  clear hx7
  go_wp2_with fail
  refine (law_number _ _).mono ?_
  rintro e8 w8 ⟨rfl, hx8⟩
  have HX8 := Lib.hid hx8
  have hs8 := hx8.size
  clear hx8
  go_wp2_with fail
  refine (law_text _ _).mono ?_
  rintro e9 w9 ⟨rfl, hx9⟩
  have HX9 := Lib.hid hx9
  have hs9 := hx9.size
  clear hx9
  have x0 : Ext w w1 := ((Ext.refl w).alloc _).alloc _ |>.trans HX1.out
  have x14 : Ext w1 w4 := HX2.out.trans (HX3.out.trans (((Ext.refl _).alloc _).trans HX4.out))
  have x47 : Ext w4 w7 := HX5.out.trans (HX6.out.trans (((Ext.refl _).alloc _).trans HX7.out))
  have x79 : Ext w7 w9 := HX8.out.trans HX9.out
  have b0 : Blk w9 w.heap.size 28 #[.string ⟨#[]⟩, .slice none 0 0, .slice none 0 0] := ((((Blk.new w 28 #[.string ⟨#[]⟩, .slice none 0 0, .slice none 0 0]).keep (Kept.alloc _ _ _)).keep (HX1.out.kept _)).keep ((x14.trans (x47.trans x79)).kept _))
  have b1 : Blk w9 (w.heap.size + 1) 9 #[.string sCity, .string sZip, .string sCountry] := by
    have := ((Blk.new (w.alloc (.cells #[.string ⟨#[]⟩, .slice none 0 0, .slice none 0 0] 28)) 9 #[.string sCity, .string sZip, .string sCountry]).keep (HX1.out.kept _)).keep ((x14.trans (x47.trans x79)).kept _)
    simpa using this
  have c1 : Blk w9 w3.heap.size 33 (rowC [textV ⟨#[82, 111, 109, 101]⟩, numV 1 0, textV ⟨#[105, 116]⟩]) := ((Blk.new w3 33 (rowC [textV ⟨#[82, 111, 109, 101]⟩, numV 1 0, textV ⟨#[105, 116]⟩])).keep (HX4.out.kept _)).keep ((x47.trans x79).kept _)
  have c2 : Blk w9 w6.heap.size 33 (rowC [textV ⟨#[79, 115, 108, 111]⟩, numV 2 0, textV ⟨#[110, 111]⟩]) := ((Blk.new w6 33 (rowC [textV ⟨#[79, 115, 108, 111]⟩, numV 2 0, textV ⟨#[110, 111]⟩])).keep (HX7.out.kept _)).keep (x79.kept _)
  have hz1 : w.heap.size + 1 < w1.heap.size := by have := hs1; simp at this; omega
  have hz4 := x14.size
  have hz7 := x47.size
  have hz9 := x79.size
  have hz3 : w1.heap.size ≤ w3.heap.size := by omega
  have hz36 : w3.heap.size < w6.heap.size := by have := hs4; simp at this; omega
  have hz69 : w6.heap.size < w9.heap.size := by have := hs7; simp at this; omega
  have HX := Lib.hid (x0.trans (x14.trans (x47.trans x79)))
  have HB1 := Lib.hid b1
  have HC1 := Lib.hid c1
  have HC2 := Lib.hid c2
  have HB0 := Lib.hid b0
  have r0 := b0.cell (i := 0) rfl
  have r1 := b0.cell (i := 1) rfl
  have r2 := b0.cell (i := 2) rfl
  have rf := b0.frozen
  have rz := b0.lt
  clear hs1 hs2 hs3 hs4 hs5 hs6 hs7 hs8 hs9 x0 x14 x47 x79 b0 b1 c1 c2 HX1 HX2 HX3 HX4 HX5 HX6 HX7 HX8 HX9 hz4 hz7 hz9
  go_wp2
  refine bodyPost_ret (v := .agg #[.string ⟨#[116]⟩, .slice (some ⟨w.heap.size + 1, 0, none⟩) 3 3, .slice (some ⟨w9.heap.size + 1, 0, none⟩) 3 3]) (by simp [results, Tryz.results37, go_sem, r0, r1, r2, rz]) rfl ⟨_, 3, _, 3, rfl, ⟨Nat.le_refl _, Nat.le_refl _⟩, ?_, ?_⟩
  · obtain ⟨v, hv⟩ : ∃ v, v = ((w9.setCell ⟨w.heap.size, 0, none⟩ (Value.string ⟨#[116]⟩)).setCell ⟨w.heap.size, 1, none⟩ (Value.slice (some ⟨w.heap.size + 1, 0, none⟩) 3 3)).setCell ⟨w.heap.size, 2, none⟩ (Value.slice (some ⟨w9.heap.size + 1, 0, none⟩) 3 3) := ⟨_, rfl⟩
    have hsz : v.heap.size = w9.heap.size := by rw [hv]; simp [World.setCell]
    have hk : Kept (fun b => w.heap.size < b) w9 v := by
      rw [hv]
      iterate 3 with_reducible refine Kept.set2 ?_ (by simp)
      exact Kept.refl _ _
    have hm := cities_mem (S := Fresh w) (HB1.out.keep (hk.mono fun i _ hi => by subst hi; omega)) (HC1.out.keep (hk.mono fun i _ hi => by subst hi; omega)) (HC2.out.keep (hk.mono fun i _ hi => by subst hi; omega)) (by unfold Fresh; omega) (by unfold Fresh; omega) (by unfold Fresh; omega) (by unfold Fresh; omega) (by unfold Fresh; omega)
    rw [hsz, hv] at hm
    exact hm
  · refine Ext.alloc (Ext.alloc ?_ _) _
    iterate 3 with_reducible refine Ext.set2 ?_ (by omega) _
    exact HX.out
end Go.Proofs.YtcmmkeiiapbgcaaGreatDoor
/- What the making of a dependency keeps in memory; append as one operation of a drawn region. No conditions. -/
namespace Go.Proofs.YtcmmkeiiapbgcaaGreatDoor
open Go Go.RowKit

theorem blkAt (w : World) (t : Nat) (cs : Array Value) {n : Nat} (hn : w.heap.size = n) : Blk (w.alloc (.cells cs t)) n t cs := hn ▸ Blk.new w t cs
def sSince : ByteArray := ⟨#[115, 105, 110, 99, 101]⟩
def sX : ByteArray := ⟨#[120]⟩
def names5 : Array Value := #[.string sCity, .string sZip, .string sCountry, .string sSince, .string sX]
theorem names5_at (r : Nat) (hr : r < 5) : ∃ s : ByteArray, names5[r]? = some (.string s) ∧ s.size ≤ 20 := by
  match r, hr with
  | 0, _ => exact ⟨_, rfl, by decide⟩
  | 1, _ => exact ⟨_, rfl, by decide⟩
  | 2, _ => exact ⟨_, rfl, by decide⟩
  | 3, _ => exact ⟨_, rfl, by decide⟩
  | 4, _ => exact ⟨_, rfl, by decide⟩
  | n + 5, h => omega
/-- append, as a step of the linear law. -/
theorem lin_app {P : Program} {o : Oper} {ρ : Operand → Value} {K : Value → World → Prop} {w : World} {base e sz n c : Nat} {A : Option Addr} {xs : List Value} (s x : Operand) {t by_ : Nat}
    (ho : o.op = .call { callee := .builtin .append, args := #[s, x], argTypes := #[t, t] }) (ti : TI P t e sz by_) (hs : ρ s = .slice A n c) (hown : Own w base e sz A n c xs)
    {S : Nat → Prop} {B : Option Addr} {m c2 : Nat} {news : List Value} (hx : ρ x = .slice B m c2) (hr : Rd w S B news) (hl : news.length = m * sz) (h1 : ∀ u ∈ news, u.oneCell' = true)
    (h63 : (n + m) * by_ ≤ 140737488355328) (hby : 0 < by_) (hbase : base ≤ w.heap.size)
    (h : ∀ A' c' w', Own w' base e sz A' (n + m) c' (xs ++ news) → w.grownBy w' (ob A) → (ob A' = ob A ∨ ob A' = some w.heap.size) → K (.slice A' (n + m) c') w') :
    linUpon P K ((execOp ρ o).run P w) := by
  obtain ⟨A', c', w', hrun, h2, h3, h4⟩ := run_app w o.type ti hown (c2 := c2) hr hl h1 h63 hby hbase
  unfold execOp
  simp only [ho, resolve, invoke, builtin, Sem.run_bind, Sem.run_pure, Result.andThen_ok, List.map_toArray, List.map_cons, List.map_nil, hs, hx, hrun]
  exact h A' c' w' h2 h3 h4
/-- The memory of 'Depends'. -/
structure DC (w : World) (A : Option Addr) (n c : Nat) (s : ByteArray) (A' : Option Addr) (c' : Nat) (fs : List ByteArray) (wr : World) : Prop where
  ext : Ext w wr
  gr : Blk wr w.heap.size 52 #[.slice none 0 0, .string ⟨#[]⟩]
  num : ∃ K, NumIs wr (w.heap.size + 1) A n c K
  gn : Blk wr (w.heap.size + 1 + 1) 9 names5
  gd : Blk wr (w.heap.size + 3) 52 #[.slice A' fs.length c', .string s]
  own : OwnSs wr (w.heap.size + 4) A' c' fs
theorem DC.more {w wr wr' : World} {A A' : Option Addr} {n c c' : Nat} {s : ByteArray} {fs : List ByteArray} (h : DC w A n c s A' c' fs wr) (hx : Ext wr wr') : DC w A n c s A' c' fs wr' := by
  obtain ⟨K, hK⟩ := h.num
  exact ⟨h.ext.trans hx, h.gr.keep (hx.kept _), ⟨K, hK.keep (hx.kept _)⟩, h.gn.keep (hx.kept _), h.gd.keep (hx.kept _), h.own.ext hx⟩
theorem Only.own {g : Nat} {w w' : World} (h : Only g w w') {base e sz n c : Nat} {A : Option Addr} {xs : List Value} (ho : Own w base e sz A n c xs) (hg : g < base) : Own w' base e sz A n c xs :=
  ho.keep (h.kept fun b _ hb => by have := (ho.blk hb).1; omega)
theorem DC.next {w wr wr' : World} {A A' : Option Addr} {n c c' : Nat} {s : ByteArray} {fs : List ByteArray} (h : DC w A n c s A' c' fs wr) (ho : Only (w.heap.size + 1) wr wr') {K : Nat} (hK : NumIs wr' (w.heap.size + 1) A n c K) : DC w A n c s A' c' fs wr' :=
  ⟨h.ext.only ho (by omega), h.gr.keep (ho.kept fun b _ e => by omega), ⟨K, hK⟩, h.gn.keep (ho.kept fun b _ e => by omega), h.gd.keep (ho.kept fun b _ e => by omega), ho.own h.own.1 (by omega), h.own.2⟩
/-- Behind the append, ahead of the store. -/
structure DA (w : World) (A : Option Addr) (n c : Nat) (s : ByteArray) (A' : Option Addr) (c' : Nat) (fs : List ByteArray) (wr : World) : Prop where
  ext : Ext w wr
  gr : Blk wr w.heap.size 52 #[.slice none 0 0, .string ⟨#[]⟩]
  num : ∃ K, NumIs wr (w.heap.size + 1) A n c K
  gn : Blk wr (w.heap.size + 1 + 1) 9 names5
  gd : ∃ x, Blk wr (w.heap.size + 3) 52 #[x, .string s]
  own : OwnSs wr (w.heap.size + 4) A' c' fs
theorem DC.app {w wr wr' : World} {A A' A4 : Option Addr} {n c c' c4 : Nat} {s t : ByteArray} {fs : List ByteArray} (h : DC w A n c s A' c' fs wr) (hg : wr.grownBy wr' (ob A')) (ho : Own wr' (w.heap.size + 4) 9 1 A4 (fs.length + 1) c4 (fs.map Value.string ++ [.string t])) (ht : t.size ≤ 4294967296) : DA w A n c s A4 c4 (fs ++ [t]) wr' := by
  obtain ⟨K, hK⟩ := h.num
  have hk : ∀ g, g < w.heap.size + 4 → Kept (fun b => b = g) wr wr' := fun g hg' => Kept.of_grown hg fun b hb _ e => by
    subst hb
    have := (h.own.1.blk e.symm).1
    omega
  refine ⟨Ext.grown h.ext hg fun b hb => by have := (h.own.1.blk hb).1; omega, h.gr.keep (hk _ (by omega)), ⟨K, hK.keep (hk _ (by omega))⟩, h.gn.keep (hk _ (by omega)), ⟨_, h.gd.keep (hk _ (by omega))⟩, ?_, ?_⟩
  · simpa using ho
  · intro x hx
    rcases List.mem_append.1 hx with hx | hx
    · exact h.own.2 x hx
    · simp at hx; subst hx; exact ht
theorem DA.store {w wr : World} {A A' : Option Addr} {n c c' : Nat} {s : ByteArray} {fs : List ByteArray} (h : DA w A n c s A' c' fs wr) : DC w A n c s A' c' fs (wr.setCell ⟨w.heap.size + 3, 0, none⟩ (.slice A' fs.length c')) := by
  obtain ⟨K, hK⟩ := h.num
  obtain ⟨x, hx⟩ := h.gd
  have ho := (Only.refl (w.heap.size + 3) wr).set 0 (.slice A' fs.length c')
  exact ⟨h.ext.only ho (by omega), h.gr.keep (ho.kept fun b _ e => by omega), ⟨K, hK.keep (ho.kept fun b _ e => by omega)⟩, h.gn.keep (ho.kept fun b _ e => by omega), hx.set 0 _, ho.own h.own.1 (by omega), h.own.2⟩
end Go.Proofs.YtcmmkeiiapbgcaaGreatDoor
/- The reference's Cell: one of four values of a kind, or the empty one. No conditions. -/
namespace Go.Proofs.YtcmmkeiiapbgcaaGreatDoor
open Go Go.RowKit

def sRome : ByteArray := ⟨#[82, 111, 109, 101]⟩
def sOslo2 : ByteArray := ⟨#[79, 115, 108, 111]⟩
def sBergen : ByteArray := ⟨#[66, 101, 114, 103, 101, 110]⟩
def sIt : ByteArray := ⟨#[105, 116]⟩
def dateV (n : Int) : Val := ⟨3, ⟨#[]⟩, 0, 0, n, [], []⟩
/-- The cell of a kind with a number below 5. -/
def cellS (kind : Int) (n : Nat) : Val :=
  if n = 4 then Val.zero
  else if kind = 2 then (if n = 0 then numV 1 0 else if n = 1 then numV (-25) 1 else if n = 2 then numV 3 0 else numV 1000000000000000 0)
  else if kind = 3 then dateV (738000 + n)
  else textV (if n = 0 then sRome else if n = 1 then sOslo2 else if n = 2 then sBergen else sIt)
theorem tmod5 (a : Int) (h : 0 ≤ a) : a.tmod 5 = a % 5 := Int.tmod_eq_emod_of_nonneg h
set_option maxRecDepth 100000 in
set_option maxHeartbeats 1000000 in
theorem cell_number_0 (n : Int) (w : World) (hme : (n.tmod 5 + 5) % 5 = 0)  : Calls Tryz.prog 10 #[.int .i64 2, .int .i64 n] w (RetV0 w (cellS 2 0)) := by
  obtain ⟨b1, b2⟩ := next_bd n 5 (by omega)
  go_enter Tryz.func10, Tryz.ntmps10
  go_wp2
  refine bodyPost_ret (v := .agg #[.int .i64 2, .string ⟨#[]⟩, .int .i64 (1), .int .i64 0, .int .i64 0, .slice none 0 0, .slice none 0 0]) (by simp [results, Tryz.results10, go_sem]) rfl ⟨by simp [cellS, numV], ?_⟩
  exact ((Ext.refl w).alloc _).alloc _
set_option maxRecDepth 100000 in
set_option maxHeartbeats 1000000 in
theorem cell_number_1 (n : Int) (w : World) (hme : (n.tmod 5 + 5) % 5 = 1)  : Calls Tryz.prog 10 #[.int .i64 2, .int .i64 n] w (RetV0 w (cellS 2 1)) := by
  obtain ⟨b1, b2⟩ := next_bd n 5 (by omega)
  go_enter Tryz.func10, Tryz.ntmps10
  go_wp2
  refine bodyPost_ret (v := .agg #[.int .i64 2, .string ⟨#[]⟩, .int .i64 (-25), .int .i64 1, .int .i64 0, .slice none 0 0, .slice none 0 0]) (by simp [results, Tryz.results10, go_sem]) rfl ⟨by simp [cellS, numV], ?_⟩
  exact ((Ext.refl w).alloc _).alloc _
set_option maxRecDepth 100000 in
set_option maxHeartbeats 1000000 in
theorem cell_number_2 (n : Int) (w : World) (hme : (n.tmod 5 + 5) % 5 = 2)  : Calls Tryz.prog 10 #[.int .i64 2, .int .i64 n] w (RetV0 w (cellS 2 2)) := by
  obtain ⟨b1, b2⟩ := next_bd n 5 (by omega)
  go_enter Tryz.func10, Tryz.ntmps10
  go_wp2
  refine bodyPost_ret (v := .agg #[.int .i64 2, .string ⟨#[]⟩, .int .i64 (3), .int .i64 0, .int .i64 0, .slice none 0 0, .slice none 0 0]) (by simp [results, Tryz.results10, go_sem]) rfl ⟨by simp [cellS, numV], ?_⟩
  exact ((Ext.refl w).alloc _).alloc _
set_option maxRecDepth 100000 in
set_option maxHeartbeats 1000000 in
theorem cell_number_3 (n : Int) (w : World) (hme : (n.tmod 5 + 5) % 5 = 3)  : Calls Tryz.prog 10 #[.int .i64 2, .int .i64 n] w (RetV0 w (cellS 2 3)) := by
  obtain ⟨b1, b2⟩ := next_bd n 5 (by omega)
  go_enter Tryz.func10, Tryz.ntmps10
  go_wp2
  refine bodyPost_ret (v := .agg #[.int .i64 2, .string ⟨#[]⟩, .int .i64 (1000000000000000), .int .i64 0, .int .i64 0, .slice none 0 0, .slice none 0 0]) (by simp [results, Tryz.results10, go_sem]) rfl ⟨by simp [cellS, numV], ?_⟩
  exact ((Ext.refl w).alloc _).alloc _
theorem cell_number (n : Int) (w : World) (m : Nat) (hm : m < 4) (hme : (n.tmod 5 + 5) % 5 = (m : Int))  : Calls Tryz.prog 10 #[.int .i64 2, .int .i64 n] w (RetV0 w (cellS 2 m)) := by
  match m, hm, hme with
  | 0, _, h => exact cell_number_0 n w h
  | 1, _, h => exact cell_number_1 n w h
  | 2, _, h => exact cell_number_2 n w h
  | 3, _, h => exact cell_number_3 n w h
set_option maxRecDepth 100000 in
set_option maxHeartbeats 1000000 in
theorem cell_date_0 (n : Int) (w : World) (hme : (n.tmod 5 + 5) % 5 = 0)  : Calls Tryz.prog 10 #[.int .i64 3, .int .i64 n] w (RetV0 w (cellS 3 0)) := by
  obtain ⟨b1, b2⟩ := next_bd n 5 (by omega)
  go_enter Tryz.func10, Tryz.ntmps10
  go_wp2
  refine bodyPost_ret (v := .agg #[.int .i64 3, .string ⟨#[]⟩, .int .i64 0, .int .i64 0, .int .i64 738000, .slice none 0 0, .slice none 0 0]) (by simp [results, Tryz.results10, go_sem]) rfl ⟨by simp [cellS, dateV], ?_⟩
  exact (Ext.refl w).alloc _
set_option maxRecDepth 100000 in
set_option maxHeartbeats 1000000 in
theorem cell_date_1 (n : Int) (w : World) (hme : (n.tmod 5 + 5) % 5 = 1)  : Calls Tryz.prog 10 #[.int .i64 3, .int .i64 n] w (RetV0 w (cellS 3 1)) := by
  obtain ⟨b1, b2⟩ := next_bd n 5 (by omega)
  go_enter Tryz.func10, Tryz.ntmps10
  go_wp2
  refine bodyPost_ret (v := .agg #[.int .i64 3, .string ⟨#[]⟩, .int .i64 0, .int .i64 0, .int .i64 738001, .slice none 0 0, .slice none 0 0]) (by simp [results, Tryz.results10, go_sem]) rfl ⟨by simp [cellS, dateV], ?_⟩
  exact (Ext.refl w).alloc _
set_option maxRecDepth 100000 in
set_option maxHeartbeats 1000000 in
theorem cell_date_2 (n : Int) (w : World) (hme : (n.tmod 5 + 5) % 5 = 2)  : Calls Tryz.prog 10 #[.int .i64 3, .int .i64 n] w (RetV0 w (cellS 3 2)) := by
  obtain ⟨b1, b2⟩ := next_bd n 5 (by omega)
  go_enter Tryz.func10, Tryz.ntmps10
  go_wp2
  refine bodyPost_ret (v := .agg #[.int .i64 3, .string ⟨#[]⟩, .int .i64 0, .int .i64 0, .int .i64 738002, .slice none 0 0, .slice none 0 0]) (by simp [results, Tryz.results10, go_sem]) rfl ⟨by simp [cellS, dateV], ?_⟩
  exact (Ext.refl w).alloc _
set_option maxRecDepth 100000 in
set_option maxHeartbeats 1000000 in
theorem cell_date_3 (n : Int) (w : World) (hme : (n.tmod 5 + 5) % 5 = 3)  : Calls Tryz.prog 10 #[.int .i64 3, .int .i64 n] w (RetV0 w (cellS 3 3)) := by
  obtain ⟨b1, b2⟩ := next_bd n 5 (by omega)
  go_enter Tryz.func10, Tryz.ntmps10
  go_wp2
  refine bodyPost_ret (v := .agg #[.int .i64 3, .string ⟨#[]⟩, .int .i64 0, .int .i64 0, .int .i64 738003, .slice none 0 0, .slice none 0 0]) (by simp [results, Tryz.results10, go_sem]) rfl ⟨by simp [cellS, dateV], ?_⟩
  exact (Ext.refl w).alloc _
theorem cell_date (n : Int) (w : World) (m : Nat) (hm : m < 4) (hme : (n.tmod 5 + 5) % 5 = (m : Int))  : Calls Tryz.prog 10 #[.int .i64 3, .int .i64 n] w (RetV0 w (cellS 3 m)) := by
  match m, hm, hme with
  | 0, _, h => exact cell_date_0 n w h
  | 1, _, h => exact cell_date_1 n w h
  | 2, _, h => exact cell_date_2 n w h
  | 3, _, h => exact cell_date_3 n w h
set_option maxRecDepth 100000 in
set_option maxHeartbeats 1000000 in
theorem cell_text_0 (kind : Int) (n : Int) (w : World) (hme : (n.tmod 5 + 5) % 5 = 0) (hk2 : (kind == 2) = false) (hk3 : (kind == 3) = false) : Calls Tryz.prog 10 #[.int .i64 kind, .int .i64 n] w (RetV0 w (cellS kind 0)) := by
  obtain ⟨b1, b2⟩ := next_bd n 5 (by omega)
  have HK2 := Lib.hid (show kind ≠ 2 by simpa using hk2)
  have HK3 := Lib.hid (show kind ≠ 3 by simpa using hk3)
  go_enter Tryz.func10, Tryz.ntmps10
  go_wp2
  refine bodyPost_ret (v := .agg #[.int .i64 1, .string sRome, .int .i64 0, .int .i64 0, .int .i64 0, .slice none 0 0, .slice none 0 0]) (by simp [results, Tryz.results10, go_sem, sRome]) rfl ⟨by simp [cellS, textV, HK2.out, HK3.out], ?_⟩
  exact ((Ext.refl w).alloc _).alloc _
set_option maxRecDepth 100000 in
set_option maxHeartbeats 1000000 in
theorem cell_text_1 (kind : Int) (n : Int) (w : World) (hme : (n.tmod 5 + 5) % 5 = 1) (hk2 : (kind == 2) = false) (hk3 : (kind == 3) = false) : Calls Tryz.prog 10 #[.int .i64 kind, .int .i64 n] w (RetV0 w (cellS kind 1)) := by
  obtain ⟨b1, b2⟩ := next_bd n 5 (by omega)
  have HK2 := Lib.hid (show kind ≠ 2 by simpa using hk2)
  have HK3 := Lib.hid (show kind ≠ 3 by simpa using hk3)
  go_enter Tryz.func10, Tryz.ntmps10
  go_wp2
  refine bodyPost_ret (v := .agg #[.int .i64 1, .string sOslo2, .int .i64 0, .int .i64 0, .int .i64 0, .slice none 0 0, .slice none 0 0]) (by simp [results, Tryz.results10, go_sem, sOslo2]) rfl ⟨by simp [cellS, textV, HK2.out, HK3.out], ?_⟩
  exact ((Ext.refl w).alloc _).alloc _
set_option maxRecDepth 100000 in
set_option maxHeartbeats 1000000 in
theorem cell_text_2 (kind : Int) (n : Int) (w : World) (hme : (n.tmod 5 + 5) % 5 = 2) (hk2 : (kind == 2) = false) (hk3 : (kind == 3) = false) : Calls Tryz.prog 10 #[.int .i64 kind, .int .i64 n] w (RetV0 w (cellS kind 2)) := by
  obtain ⟨b1, b2⟩ := next_bd n 5 (by omega)
  have HK2 := Lib.hid (show kind ≠ 2 by simpa using hk2)
  have HK3 := Lib.hid (show kind ≠ 3 by simpa using hk3)
  go_enter Tryz.func10, Tryz.ntmps10
  go_wp2
  refine bodyPost_ret (v := .agg #[.int .i64 1, .string sBergen, .int .i64 0, .int .i64 0, .int .i64 0, .slice none 0 0, .slice none 0 0]) (by simp [results, Tryz.results10, go_sem, sBergen]) rfl ⟨by simp [cellS, textV, HK2.out, HK3.out], ?_⟩
  exact ((Ext.refl w).alloc _).alloc _
set_option maxRecDepth 100000 in
set_option maxHeartbeats 1000000 in
theorem cell_text_3 (kind : Int) (n : Int) (w : World) (hme : (n.tmod 5 + 5) % 5 = 3) (hk2 : (kind == 2) = false) (hk3 : (kind == 3) = false) : Calls Tryz.prog 10 #[.int .i64 kind, .int .i64 n] w (RetV0 w (cellS kind 3)) := by
  obtain ⟨b1, b2⟩ := next_bd n 5 (by omega)
  have HK2 := Lib.hid (show kind ≠ 2 by simpa using hk2)
  have HK3 := Lib.hid (show kind ≠ 3 by simpa using hk3)
  go_enter Tryz.func10, Tryz.ntmps10
  go_wp2
  refine bodyPost_ret (v := .agg #[.int .i64 1, .string sIt, .int .i64 0, .int .i64 0, .int .i64 0, .slice none 0 0, .slice none 0 0]) (by simp [results, Tryz.results10, go_sem, sIt]) rfl ⟨by simp [cellS, textV, HK2.out, HK3.out], ?_⟩
  exact ((Ext.refl w).alloc _).alloc _
theorem cell_text (kind : Int) (n : Int) (w : World) (m : Nat) (hm : m < 4) (hme : (n.tmod 5 + 5) % 5 = (m : Int)) (hk2 : (kind == 2) = false) (hk3 : (kind == 3) = false) : Calls Tryz.prog 10 #[.int .i64 kind, .int .i64 n] w (RetV0 w (cellS kind m)) := by
  match m, hm, hme with
  | 0, _, h => exact cell_text_0 kind n w h hk2 hk3
  | 1, _, h => exact cell_text_1 kind n w h hk2 hk3
  | 2, _, h => exact cell_text_2 kind n w h hk2 hk3
  | 3, _, h => exact cell_text_3 kind n w h hk2 hk3
set_option maxRecDepth 100000 in
set_option maxHeartbeats 1000000 in
theorem cell_none (kind n : Int) (w : World) (hme : (n.tmod 5 + 5) % 5 = 4) : Calls Tryz.prog 10 #[.int .i64 kind, .int .i64 n] w (RetV0 w (cellS kind 4)) := by
  obtain ⟨b1, b2⟩ := next_bd n 5 (by omega)
  go_enter Tryz.func10, Tryz.ntmps10
  go_wp2
  refine bodyPost_ret (v := .agg #[.int .i64 0, .string ⟨#[]⟩, .int .i64 0, .int .i64 0, .int .i64 0, .slice none 0 0, .slice none 0 0]) (by simp [results, Tryz.results10, go_sem]) rfl ⟨by simp [cellS, Val.zero], ?_⟩
  exact (Ext.refl w).alloc _
theorem r09_Cell (kind n : Int) (w : World) (m : Nat) (hm : (n.tmod 5 + 5).tmod 5 = (m : Int)) : Calls Tryz.prog 10 #[.int .i64 kind, .int .i64 n] w (RetV0 w (cellS kind m)) := by
  obtain ⟨b1, b2⟩ := next_bd n 5 (by omega)
  have hm5 : m < 5 := by have := (next_r n 5 (by omega)).2; omega
  rw [tmod5 _ (by omega)] at hm
  by_cases h4 : m = 4
  · subst h4
    exact cell_none kind n w hm
  · by_cases h2 : kind = 2
    · subst h2; exact cell_number n w m (by omega) hm
    · by_cases h3 : kind = 3
      · subst h3; exact cell_date n w m (by omega) hm
      · exact cell_text kind n w m (by omega) hm (by simpa using h2) (by simpa using h3)
end Go.Proofs.YtcmmkeiiapbgcaaGreatDoor
/- What the making of a table keeps in memory. No conditions. -/
namespace Go.Proofs.YtcmmkeiiapbgcaaGreatDoor
open Go Go.RowKit

def names4 : List ByteArray := [sCity, sZip, sCountry, sSince]
def names4A : Array Value := #[.string sCity, .string sZip, .string sCountry, .string sSince]
theorem names4_at (k : Nat) (hk : k < 4) : ∃ h : k < names4.length, names4A[k]? = some (.string names4[k]) ∧ names4[k].size ≤ 20 := by
  match k, hk with
  | 0, _ => exact ⟨by decide, rfl, by decide⟩
  | 1, _ => exact ⟨by decide, rfl, by decide⟩
  | 2, _ => exact ⟨by decide, rfl, by decide⟩
  | 3, _ => exact ⟨by decide, rfl, by decide⟩
  | n + 4, h => omega
/-- The memory of 'Made' while columns are made. -/
structure M1 (w : World) (name : ByteArray) (A : Option Addr) (n c : Nat) (Ac : Option Addr) (cc : Nat) (cols : List ByteArray) (Ak : Option Addr) (ck : Nat) (ks : List Int) (wr : World) : Prop where
  ext : Ext w wr
  gr : Blk wr w.heap.size 28 #[.string ⟨#[]⟩, .slice none 0 0, .slice none 0 0]
  num : ∃ K, NumIs wr (w.heap.size + 1) A n c K
  gt : Blk wr (w.heap.size + 1 + 1) 28 #[.string name, .slice Ac cols.length cc, .slice none 0 0]
  ownC : OwnSs wr (w.heap.size + 3) Ac cc cols
  ownK : OwnIs wr (w.heap.size + 3) Ak ck ks
  sep : ∀ b, ob Ac = some b → ob Ak ≠ some b
section
variable {w wr wr' : World} {name : ByteArray} {A Ac Ak : Option Addr} {n c cc ck : Nat} {cols : List ByteArray} {ks : List Int}
theorem M1.more (h : M1 w name A n c Ac cc cols Ak ck ks wr) (hx : Ext wr wr') : M1 w name A n c Ac cc cols Ak ck ks wr' := by
  obtain ⟨K, hK⟩ := h.num
  exact ⟨h.ext.trans hx, h.gr.keep (hx.kept _), ⟨K, hK.keep (hx.kept _)⟩, h.gt.keep (hx.kept _), h.ownC.ext hx, h.ownK.ext hx, h.sep⟩
theorem M1.next (h : M1 w name A n c Ac cc cols Ak ck ks wr) (ho : Only (w.heap.size + 1) wr wr') {K : Nat} (hK : NumIs wr' (w.heap.size + 1) A n c K) : M1 w name A n c Ac cc cols Ak ck ks wr' :=
  ⟨h.ext.only ho (by omega), h.gr.keep (ho.kept fun b _ e => by omega), ⟨K, hK⟩, h.gt.keep (ho.kept fun b _ e => by omega), ⟨ho.own h.ownC.1 (by omega), h.ownC.2⟩, ho.own (Own.lower h.ownK (Nat.le_refl _)) (by omega), h.sep⟩
/-- Behind the append to the columns, ahead of the store. -/
structure M1A (w : World) (name : ByteArray) (A : Option Addr) (n c : Nat) (Ac : Option Addr) (cc : Nat) (cols : List ByteArray) (Ak : Option Addr) (ck : Nat) (ks : List Int) (wr : World) : Prop where
  ext : Ext w wr
  gr : Blk wr w.heap.size 28 #[.string ⟨#[]⟩, .slice none 0 0, .slice none 0 0]
  num : ∃ K, NumIs wr (w.heap.size + 1) A n c K
  gt : ∃ x, Blk wr (w.heap.size + 1 + 1) 28 #[.string name, x, .slice none 0 0]
  ownC : OwnSs wr (w.heap.size + 3) Ac cc cols
  ownK : OwnIs wr (w.heap.size + 3) Ak ck ks
  sep : ∀ b, ob Ac = some b → ob Ak ≠ some b
theorem M1.app {A4 : Option Addr} {c4 : Nat} {t : ByteArray} (h : M1 w name A n c Ac cc cols Ak ck ks wr) (hg : wr.grownBy wr' (ob Ac)) (ho : Own wr' (w.heap.size + 3) 9 1 A4 (cols.length + 1) c4 (cols.map Value.string ++ [.string t]))
    (hat : ob A4 = ob Ac ∨ ob A4 = some wr.heap.size) (ht : t.size ≤ 4294967296) : M1A w name A n c A4 c4 (cols ++ [t]) Ak ck ks wr' := by
  obtain ⟨K, hK⟩ := h.num
  have hk : ∀ g, g < w.heap.size + 3 → Kept (fun b => b = g) wr wr' := fun g hg' => Kept.of_grown hg fun b hb _ e => by
    subst hb
    have := (h.ownC.1.blk e.symm).1
    omega
  refine ⟨Ext.grown h.ext hg fun b hb => by have := (h.ownC.1.blk hb).1; omega, h.gr.keep (hk _ (by omega)), ⟨K, hK.keep (hk _ (by omega))⟩, ⟨_, h.gt.keep (hk _ (by omega))⟩, ⟨?_, ?_⟩, ?_, ?_⟩
  · simpa using ho
  · intro x hx
    rcases List.mem_append.1 hx with hx | hx
    · exact h.ownC.2 x hx
    · simp at hx; subst hx; exact ht
  · exact Own.keep h.ownK (Kept.of_grown hg fun b hb _ e => h.sep b e.symm hb)
  · intro b hb hb'
    rcases hat with e | e
    · rw [e] at hb; exact h.sep b hb hb'
    · rw [e] at hb
      have := (Own.blk h.ownK hb').2
      injection hb with hb
      omega
theorem M1A.store (h : M1A w name A n c Ac cc cols Ak ck ks wr) : M1 w name A n c Ac cc cols Ak ck ks (wr.setCell ⟨w.heap.size + 1 + 1, 1, none⟩ (.slice Ac cols.length cc)) := by
  obtain ⟨K, hK⟩ := h.num
  obtain ⟨x, hx⟩ := h.gt
  have ho := (Only.refl (w.heap.size + 1 + 1) wr).set 1 (.slice Ac cols.length cc)
  exact ⟨h.ext.only ho (by omega), h.gr.keep (ho.kept fun b _ e => by omega), ⟨K, hK.keep (ho.kept fun b _ e => by omega)⟩, hx.set 1 _, ⟨ho.own h.ownC.1 (by omega), h.ownC.2⟩, ho.own (Own.lower h.ownK (Nat.le_refl _)) (by omega), h.sep⟩
theorem M1.appK {A4 : Option Addr} {c4 : Nat} {x : Int} (h : M1 w name A n c Ac cc cols Ak ck ks wr) (hg : wr.grownBy wr' (ob Ak)) (ho : Own wr' (w.heap.size + 3) 3 1 A4 (ks.length + 1) c4 (ks.map (Value.int .i64) ++ [.int .i64 x]))
    (hat : ob A4 = ob Ak ∨ ob A4 = some wr.heap.size) : M1 w name A n c Ac cc cols A4 c4 (ks ++ [x]) wr' := by
  obtain ⟨K, hK⟩ := h.num
  have hk : ∀ g, g < w.heap.size + 3 → Kept (fun b => b = g) wr wr' := fun g hg' => Kept.of_grown hg fun b hb _ e => by
    subst hb
    have := (Own.blk h.ownK e.symm).1
    omega
  refine ⟨Ext.grown h.ext hg fun b hb => by have := (Own.blk h.ownK hb).1; omega, h.gr.keep (hk _ (by omega)), ⟨K, hK.keep (hk _ (by omega))⟩, h.gt.keep (hk _ (by omega)), ⟨?_, h.ownC.2⟩, ?_, ?_⟩
  · exact h.ownC.1.keep (Kept.of_grown hg fun b hb _ e => h.sep b hb e.symm)
  · unfold OwnIs
    simpa using ho
  · intro b hb hb'
    rcases hat with e | e
    · rw [e] at hb'; exact h.sep b hb hb'
    · rw [e] at hb'
      have := (h.ownC.1.blk hb).2
      injection hb' with hb'
      omega
end
theorem IntsSet {w : World} {S : Nat → Prop} {b o : Nat} {l : List Int} (h : Ints w S (some ⟨b, o, none⟩) l) (i : Nat) (x : Int) : Ints (w.setCell ⟨b, o + i, none⟩ (.int .i64 x)) S (some ⟨b, o, none⟩) (l.set i x) := by
  refine ⟨?_, by simpa using h.2⟩
  rcases h.1 with h0 | ⟨b', o', hA, hS, hlt, hc⟩
  · rw [List.map_eq_nil_iff] at h0
    subst h0
    exact Or.inl rfl
  · injection hA with hA
    injection hA with hb ho
    subst hb
    subst ho
    refine Or.inr ⟨b, o, rfl, hS, by simpa [World.setCell] using hlt, fun j u hj => ?_⟩
    rw [List.getElem?_map, List.getElem?_set] at hj
    by_cases hij : i = j
    · subst hij
      rw [if_pos rfl] at hj
      by_cases hl : i < l.length
      · rw [if_pos hl] at hj
        simp at hj
        subst hj
        have := hc i _ (by rw [List.getElem?_map, List.getElem?_eq_getElem hl]; rfl)
        exact World.cell?_setCell_same _ _ _ this
      · rw [if_neg hl] at hj; simp at hj
    · rw [if_neg hij] at hj
      have := hc j u (by rw [List.getElem?_map]; exact hj)
      rw [World.cell?_setCell_other _ _ _ _ (by intro e; injection e with _ e; omega)]
      exact this
/-- A row of the table: each cell is one of the five of its column's kind. -/
def rowK (ks : List Int) (r : List Val) : Prop := r.length = ks.length ∧ ∀ (j : Nat) (h : j < r.length) (h' : j < ks.length), ∃ m : Nat, m < 5 ∧ r[j] = cellS ks[j] m
/-- The tables that 'Made' makes. -/
def MadeT (name : ByteArray) (t : Look) : Prop := t.name = name ∧ ∃ ks : List Int, 1 ≤ ks.length ∧ ks.length ≤ 4 ∧ t.cols = names4.take ks.length ∧ ks.head? = some 1 ∧ (∀ x ∈ ks, x = 1 ∨ x = 2 ∨ x = 3) ∧ t.rows.length ≤ 6 ∧ ∀ r ∈ t.rows, rowK ks r
def RetMade (w : World) (name : ByteArray) (e : Ending) (w' : World) : Prop := ∃ t, MadeT name t ∧ RetL w t e w'
/-- The memory of 'Made' while rows are made; what is below H and the columns and kinds is finished; rows lie from H up to T. -/
structure M2 (w : World) (name : ByteArray) (A : Option Addr) (n c H : Nat) (Ac : Option Addr) (cc : Nat) (cols : List ByteArray) (Ak : Option Addr) (ks : List Int) (Ar : Option Addr) (cr : Nat) (rows : List (List Val)) (T : Nat) (wr : World) : Prop where
  ext : Ext w wr
  gr : Blk wr w.heap.size 28 #[.string ⟨#[]⟩, .slice none 0 0, .slice none 0 0]
  num : ∃ K, NumIs wr (w.heap.size + 1) A n c K
  gt : Blk wr (w.heap.size + 1 + 1) 28 #[.string name, .slice Ac cols.length cc, .slice Ar rows.length cr]
  capC : cols.length ≤ cc
  cols : Strs wr (fun b => w.heap.size + 3 ≤ b ∧ b < H) Ac cols
  ks : Ints wr (fun b => w.heap.size + 3 ≤ b ∧ b < H) Ak ks
  low : w.heap.size + 3 ≤ H
  mid : H ≤ T
  high : T ≤ wr.heap.size
  own : OwnRs wr H (fun b => H ≤ b ∧ b < T) 1 Ar cr rows
  top : ∀ b, ob Ar = some b → b < T
section
variable {w wr wr' : World} {name : ByteArray} {A Ac Ak Ar : Option Addr} {n c H T cc cr : Nat} {cols : List ByteArray} {ks : List Int} {rows : List (List Val)}
/-- What changes neither the finished memory nor the variables. -/
theorem M2.of (h : M2 w name A n c H Ac cc cols Ak ks Ar cr rows T wr) (hx : Below w.heap.size wr wr') (hk : Kept (fun b => b < T ∧ b ≠ w.heap.size + 1) wr wr') {K : Nat} (hK : NumIs wr' (w.heap.size + 1) A n c K) : M2 w name A n c H Ac cc cols Ak ks Ar cr rows T wr' := by
  have h1 := h.low
  have h2 := h.mid
  have h3 := h.high
  refine ⟨Below.trans h.ext hx, h.gr.keep (hk.mono fun b hb e => by omega), ⟨K, hK⟩, h.gt.keep (hk.mono fun b hb e => by omega), h.capC, h.cols.keep (hk.mono fun b hb e => by omega), h.ks.keep (hk.mono fun b hb e => by omega), h1, h2, Nat.le_trans h3 hx.size, h.own.keep (hk.mono fun b hb e => ?_), h.top⟩
  rcases e with e | e
  · have := h.top b e; have := (h.own.blk e).1; omega
  · omega
theorem M2.more (h : M2 w name A n c H Ac cc cols Ak ks Ar cr rows T wr) (hx : Ext wr wr') : M2 w name A n c H Ac cc cols Ak ks Ar cr rows T wr' := by
  obtain ⟨K, hK⟩ := h.num
  exact h.of (hx.mono h.ext.size) (hx.kept _) (hK.keep (hx.kept _))
theorem M2.next (h : M2 w name A n c H Ac cc cols Ak ks Ar cr rows T wr) (ho : Only (w.heap.size + 1) wr wr') {K : Nat} (hK : NumIs wr' (w.heap.size + 1) A n c K) : M2 w name A n c H Ac cc cols Ak ks Ar cr rows T wr' :=
  h.of (ho.below (by omega)) (ho.kept fun b _ hb => hb.2) hK
theorem M2.grown (h : M2 w name A n c H Ac cc cols Ak ks Ar cr rows T wr) {row : Option Nat} (hg : wr.grownBy wr' row) (hr : ∀ b, row = some b → T ≤ b) : M2 w name A n c H Ac cc cols Ak ks Ar cr rows T wr' := by
  obtain ⟨K, hK⟩ := h.num
  have h1 := h.low
  have h2 := h.mid
  have hk : Kept (fun b => b < T) wr wr' := Kept.of_grown hg fun b hb _ e => by have := hr b e.symm; omega
  exact h.of (Below.grown (Below.refl _ _) hg h.ext.size fun b hb => by have := hr b hb; omega) (hk.mono fun b _ hb => hb.1) (hK.keep (hk.mono fun b _ hb => by omega))
theorem M1.start {g ck : Nat} (h : M1 w name A n c Ac cc cols (some ⟨g, 0, none⟩) ck ks wr) (hl : ks.length ≤ 100) (hcl : cols.length ≤ 100) : M2 w name A n c wr.heap.size Ac cc cols (some ⟨g, 0, none⟩) (ks.set 0 1) none 0 [] wr.heap.size (wr.setCell ⟨g, 0, none⟩ (.int .i64 1)) := by
  obtain ⟨K, hK⟩ := h.num
  have hg := Own.blk h.ownK (k := g) rfl
  have ho := (Only.refl g wr).set 0 (.int .i64 1)
  have hc : Strs wr (fun b => w.heap.size + 3 ≤ b ∧ b < wr.heap.size ∧ ob Ac = some b) Ac cols := h.ownC.strs (by omega) fun b hb => ⟨(h.ownC.1.blk hb).1, (h.ownC.1.blk hb).2, hb⟩
  have hk : Ints wr (fun b => w.heap.size + 3 ≤ b ∧ b < wr.heap.size) (some ⟨g, 0, none⟩) ks := OwnIs.ints h.ownK (by omega) fun b hb => Own.blk h.ownK hb
  refine ⟨h.ext.only ho (by omega), h.gr.keep (ho.kept fun b _ e => by omega), ⟨K, hK.keep (ho.kept fun b _ e => by omega)⟩, h.gt.keep (ho.kept fun b _ e => by omega), h.ownC.1.cap, (hc.keep (ho.kept fun b _ e => ?_)).mono fun b _ hb => ⟨hb.1, hb.2.1⟩, IntsSet hk 0 1, by have := h.gt.lt; omega, Nat.le_refl _, by simp [World.setCell], OwnRs.nil _ _ _ _, fun b hb => by cases hb⟩
  rintro rfl
  exact h.sep b e.2.2 rfl
theorem M2.push {row : List Val} {A' A4 : Option Addr} {c' c4 : Nat} {hs : List Value} {w4 : World} (h : M2 w name A n c H Ac cc cols Ak ks Ar cr rows T wr) (ho : hs.length = rows.length)
    (hv : ∀ (i : Nat) (r : List Val), rows[i]? = some r → ∃ (B : Option Addr) (e : Nat), hs[i]? = some (Value.slice B r.length e) ∧ r.length ≤ e ∧ Row wr (fun b => ob Ar ≠ some b ∧ (H ≤ b ∧ b < T)) 1 B r)
    (hown : Own wr H 45 1 Ar rows.length cr hs) (hown4 : Own w4 H 45 1 A4 (rows.length + 1) c4 (hs ++ [Value.slice A' row.length c'])) (hg : wr.grownBy w4 (ob Ar)) (hat : ob A4 = ob Ar ∨ ob A4 = some wr.heap.size)
    (hcap : row.length ≤ c') (hrow : Row wr (fun b => T ≤ b) 1 A' row) :
    M2 w name A n c H Ac cc cols Ak ks A4 c4 (rows ++ [row]) w4.heap.size (w4.setCell ⟨w.heap.size + 1 + 1, 2, none⟩ (.slice A4 (rows ++ [row]).length c4)) := by
  obtain ⟨K, hK⟩ := h.num
  have h1 := h.low
  have h2 := h.mid
  have h3 := h.high
  have hsz := hg.size
  have hkg : Kept (fun b => b < H) wr w4 := Kept.of_grown hg fun b hb _ e => by have := (hown.blk e.symm).1; omega
  have hx4 : Ext w w4 := Ext.grown h.ext hg fun b hb => by have := (hown.blk hb).1; omega
  have hst := (Only.refl (w.heap.size + 1 + 1) w4).set 2 (.slice A4 (rows ++ [row]).length c4)
  have hmono : ∀ b, b < wr.heap.size → (ob Ar ≠ some b ∧ H ≤ b ∧ b < T) → ob Ar ≠ some b ∧ (H ≤ b ∧ b < w4.heap.size) := fun b hb hh => ⟨hh.1, hh.2.1, by omega⟩
  have hpush : OwnRs w4 H (fun b => H ≤ b ∧ b < w4.heap.size) 1 A4 c4 (rows ++ [row]) := by
    refine OwnRs.push (w := wr) ho (fun i r hr => ?_) hown4 hg hat hcap (hrow.mono fun b hb hh => ⟨fun e => ?_, ?_, by omega⟩)
    · obtain ⟨B, e, g1, g2, g3⟩ := hv i r hr
      exact ⟨B, e, g1, g2, g3.mono hmono⟩
    · have := h.top b e; omega
    · omega
  refine ⟨hx4.only hst (by omega), (h.gr.keep (hkg.mono fun b _ e => by omega)).keep (hst.kept fun b _ e => by omega), ⟨K, (hK.keep (hkg.mono fun b _ e => by omega)).keep (hst.kept fun b _ e => by omega)⟩, (h.gt.keep (hkg.mono fun b _ e => by omega)).set 2 _, h.capC,
    (h.cols.keep (hkg.mono fun b _ e => by omega)).keep (hst.kept fun b _ e => by omega), (h.ks.keep (hkg.mono fun b _ e => by omega)).keep (hst.kept fun b _ e => by omega), h1, by omega, by simp [World.setCell], hpush.keep (hst.kept fun b _ e => ?_), fun b hb => (hpush.blk hb).2⟩
  rcases e with e | e
  · have := (hpush.blk e).1; omega
  · omega
/-- The bound T may rise. -/
theorem M2.raise (h : M2 w name A n c H Ac cc cols Ak ks Ar cr rows T wr) {T' : Nat} (h1 : T ≤ T') (h2 : T' ≤ wr.heap.size) : M2 w name A n c H Ac cc cols Ak ks Ar cr rows T' wr :=
  ⟨h.ext, h.gr, h.num, h.gt, h.capC, h.cols, h.ks, h.low, Nat.le_trans h.mid h1, h2, h.own.mono fun b _ hb => ⟨hb.1, by omega⟩, fun b hb => by have := h.top b hb; omega⟩
end
end Go.Proofs.YtcmmkeiiapbgcaaGreatDoor
