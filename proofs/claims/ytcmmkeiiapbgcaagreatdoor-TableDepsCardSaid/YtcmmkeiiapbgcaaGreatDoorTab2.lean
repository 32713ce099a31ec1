/- The program's table.isTable and table.Find. No conditions but that the arguments read as data. -/
import Derived.Test.YtcmmkeiiapbgcaaGreatDoorTab1
namespace Go.Proofs.YtcmmkeiiapbgcaaGreatDoor
open Go Go.RowKit

theorem quietI {P : Program} {f : FuncId} {args : Array Value} {w : World} {n : Nat} {v : Int} (h : Calls P f args (w.drewN n) (SameI (w.drewN n) v)) :
    Calls P f args (w.drewN n) fun e w'' => e = .returned (.int .i64 v) ∧ ∃ m, w'' = w.drewN m := h.mono fun _ _ ⟨he, hm⟩ => ⟨he, n, hm.symm⟩

set_option maxRecDepth 100000 in
set_option maxHeartbeats 400000 in
theorem table_isTable (q : Nat) (x : Val) (A B : Option Addr) (c e : Nat) (w : World) (S : Nat → Prop) (h : RV w S q x A B) (hcap : x.cols.length ≤ c) :
    Calls Tryz.prog 56 #[(.agg #[.int .i64 x.kind, .string x.s, .int .i64 x.dn, .int .i64 x.ds, .int .i64 x.n, .slice A x.cols.length c, .slice B x.rows.length e])] w (RetB w (decide (x.kind = 5) && rightB x)) := by
  have H := Lib.hid h
  clear h
  by_cases hk : x.kind = 5
  · have k0 : (x.kind == 5) = true := by simp [hk]
    have HF := Lib.hid (show (decide (x.kind = 5) && rightB x) = rightB x by simp [hk])
    clear hk
    go_enter Tryz.func56, Tryz.ntmps56
    go_wp2_with fail
    refine (value_Right q x A B c e _ S (H.out.keep (((Ext.refl w).alloc _).kept _)) hcap).mono ?_
    rintro e1 w1 ⟨rfl, hx1⟩
    have HX1 := Lib.hid hx1
    clear hx1
    go_wp2
    go_ret
    exact ⟨by rw [HF.out]; rfl, ((Ext.refl w).alloc _).trans HX1.out⟩
  · have k0 : (x.kind == 5) = false := by simp [hk]
    have HF := Lib.hid (show (decide (x.kind = 5) && rightB x) = false by simp [hk])
    clear hk
    go_enter Tryz.func56, Tryz.ntmps56
    go_wp2
    go_ret
    exact ⟨by rw [HF.out]; rfl, (Ext.refl w).alloc _⟩

def findRows (k c : Nat) (v : Val) : List (List Val) → Val × Int
  | [] => (Val.zero, 18)
  | r :: rs => if isB (r.getD k Val.zero) v = true then (if (r.getD c Val.zero).kind = 0 then (Val.zero, 18) else (r.getD c Val.zero, 0)) else findRows k c v rs
def findS (t : Look) (key : ByteArray) (v : Val) (col : ByteArray) : Val × Int :=
  if lookR t = false then (Val.zero, 1)
  else if idxS t.cols key < 0 ∨ idxS t.cols col < 0 then (Val.zero, 13)
  else findRows (idxS t.cols key).toNat (idxS t.cols col).toNat v t.rows
/-- What a call that answers a value and an error number, the value in new memory, leaves. -/
def RetVE (w : World) (S : Nat → Prop) (d : Nat) (r : Val × Int) (e : Ending) (w' : World) : Prop :=
  ∃ A c B e', e = .returned (.tuple #[(.agg #[.int .i64 r.1.kind, .string r.1.s, .int .i64 r.1.dn, .int .i64 r.1.ds, .int .i64 r.1.n, .slice A r.1.cols.length c, .slice B r.1.rows.length e']), .int .i64 r.2]) ∧ (r.1.cols.length ≤ c ∧ r.1.rows.length ≤ e') ∧ RV w' S d r.1 A B ∧ Ext w w'
theorem lookR_tab {t : Look} (h : lookR t = true) : tableR t.cols t.rows = true := by
  simp only [lookR, Bool.and_eq_true] at h
  exact h.1.2

set_option maxRecDepth 100000 in
set_option maxHeartbeats 1000000 in
theorem table_Find (d : Nat) (t : Look) (key : ByteArray) (v : Val) (col : ByteArray) (A B Av Bv : Option Addr) (c e cv ev : Nat) (w : World) (S T : Nat → Prop) (h : RL w S d t A B) (hcap : t.cols.length ≤ c) (hv : RV w T d v Av Bv) :
    Calls Tryz.prog 12 #[(.agg #[.string t.name, .slice A t.cols.length c, .slice B t.rows.length e]), .string key, (.agg #[.int .i64 v.kind, .string v.s, .int .i64 v.dn, .int .i64 v.ds, .int .i64 v.n, .slice Av v.cols.length cv, .slice Bv v.rows.length ev]), .string col] w (RetVE w (Fresh w) d (findS t key v col)) := by
  have H := Lib.hid h
  have HV := Lib.hid hv
  have hcl := h.2.1.2.1
  have hrl := h.2.2.len
  clear h hv
  go_enter Tryz.func12, Tryz.ntmps12
  go_wp2_with fail
  refine (table_Right d t A B c e _ S (H.out.keep (((((Ext.refl w).alloc _).alloc _).alloc _).kept _)) hcap).mono ?_
  rintro e1 w1 ⟨rfl, hx1⟩
  have HX1 := Lib.hid ((((Ext.refl w).alloc _).alloc _).alloc _ |>.trans hx1)
  have hz0 := hx1.size
  simp at hz0
  have hz1 : w.heap.size < w1.heap.size := by omega
  have hz2 : w.heap.size + 1 < w1.heap.size := by omega
  have hz3 : w.heap.size + 1 + 1 < w1.heap.size := by omega
  obtain ⟨hc1, hf1⟩ := bcell hx1
  simp at hc1 hf1
  cases hR : lookR t
  · have HF := Lib.hid (show findS t key v col = (Val.zero, 1) by simp [findS, hR])
    clear hR hx1
    go_wp2
    rw [HF.out]
    refine bodyPost_ret (v := .tuple #[(.agg #[.int .i64 Val.zero.kind, .string Val.zero.s, .int .i64 Val.zero.dn, .int .i64 Val.zero.ds, .int .i64 Val.zero.n, .slice none Val.zero.cols.length 0, .slice none Val.zero.rows.length 0]), .int .i64 1]) (by simp [results, Tryz.results12, go_sem, hc1, hf1, hz3, Val.zero]) rfl ⟨none, 0, none, 0, rfl, ⟨Nat.le_refl _, Nat.le_refl _⟩, RV.zero, ?_⟩
    iterate 7 with_reducible refine Ext.set2 ?_ (by omega) _
    with_reducible exact HX1.out
  have HR := Lib.hid hR
  have g1 : w1.cell? ⟨w.heap.size, 1, none⟩ = some (.slice A t.cols.length c) := by rw [hc1 _ _ (by omega)]; simp [go_sem]
  have g2 : w1.cell? ⟨w.heap.size, 2, none⟩ = some (.slice B t.rows.length e) := by rw [hc1 _ _ (by omega)]; simp [go_sem]
  have bV : Blk w1 (w.heap.size + 1) 33 #[.int .i64 v.kind, .string v.s, .int .i64 v.dn, .int .i64 v.ds, .int .i64 v.n, .slice Av v.cols.length cv, .slice Bv v.rows.length ev] := by
    have := ((Blk.new (w.alloc (.cells #[.string t.name, .slice A t.cols.length c, .slice B t.rows.length e] 28)) 33 #[.int .i64 v.kind, .string v.s, .int .i64 v.dn, .int .i64 v.ds, .int .i64 v.n, .slice Av v.cols.length cv, .slice Bv v.rows.length ev]).keep (Kept.alloc _ _ _)).keep (hx1.kept _)
    simpa using this
  have bR : Blk w1 (w.heap.size + 1 + 1) 33 #[.int .i64 Val.zero.kind, .string Val.zero.s, .int .i64 Val.zero.dn, .int .i64 Val.zero.ds, .int .i64 Val.zero.n, .slice none Val.zero.cols.length 0, .slice none Val.zero.rows.length 0] := by
    have := (Blk.new ((w.alloc (.cells #[.string t.name, .slice A t.cols.length c, .slice B t.rows.length e] 28)).alloc (.cells #[.int .i64 v.kind, .string v.s, .int .i64 v.dn, .int .i64 v.ds, .int .i64 v.n, .slice Av v.cols.length cv, .slice Bv v.rows.length ev] 33)) 33 #[.int .i64 Val.zero.kind, .string Val.zero.s, .int .i64 Val.zero.dn, .int .i64 Val.zero.ds, .int .i64 Val.zero.n, .slice none Val.zero.cols.length 0, .slice none Val.zero.rows.length 0]).keep (hx1.kept _)
    simpa using this
  have HBV := Lib.hid bV
  have HBR := Lib.hid bR
  have HL := Lib.hid (H.out.keep (HX1.out.kept S))
  clear hx1 hc1 hf1 bV bR hR
  go_wp2
  go_quiet ((go_at_call 45; exact quietI (slices_Index _ _ _ _ _ S (HL.out.2.1.keep (Kept.drewN _ _ _)))))
  rename_i nq
  have HX2 := Lib.hid (HX1.out.drewN nq)
  have HBV2 := Lib.hid (HBV.out.keep (Kept.drewN _ _ nq))
  have HBR2 := Lib.hid (HBR.out.keep (Kept.drewN _ _ nq))
  have HL2 := Lib.hid (HL.out.keep (Kept.drewN _ _ nq))
  have HE0 := Lib.hid (show (w1.drewN nq).heap.size = w1.heap.size from rfl)
  have g3 : (w1.drewN nq).cell? ⟨w.heap.size, 2, none⟩ = some (.slice B t.rows.length e) := g2
  clear g1 g2
  generalize w1.drewN nq = w2 at *
  have hz4 : w.heap.size + 1 + 1 < w2.heap.size := by rw [HE0.out]; exact hz3
  by_cases hk : 0 ≤ idxS t.cols key
  case neg =>
    have HF := Lib.hid (show findS t key v col = (Val.zero, 13) by
      unfold findS
      rw [HR.out, if_neg (by simp), if_pos (Or.inl (by omega))])
    have r0 := HBR2.out.cell (i := 0) rfl
    have r1 := HBR2.out.cell (i := 1) rfl
    have r2 := HBR2.out.cell (i := 2) rfl
    have r3 := HBR2.out.cell (i := 3) rfl
    have r4 := HBR2.out.cell (i := 4) rfl
    have r5 := HBR2.out.cell (i := 5) rfl
    have r6 := HBR2.out.cell (i := 6) rfl
    have rf := HBR2.out.frozen
    go_wp2
    rw [HF.out]
    refine bodyPost_ret (v := .tuple #[(.agg #[.int .i64 Val.zero.kind, .string Val.zero.s, .int .i64 Val.zero.dn, .int .i64 Val.zero.ds, .int .i64 Val.zero.n, .slice none Val.zero.cols.length 0, .slice none Val.zero.rows.length 0]), .int .i64 13]) (by simp [results, Tryz.results12, go_sem, r0, r1, r2, r3, r4, r5, r6, rf, hz4, Val.zero]) rfl ⟨none, 0, none, 0, rfl, ⟨Nat.le_refl _, Nat.le_refl _⟩, RV.zero, ?_⟩
    iterate 7 with_reducible refine Ext.set2 ?_ (by omega) _
    with_reducible exact HX2.out
  by_cases hc : 0 ≤ idxS t.cols col
  case neg =>
    have HF := Lib.hid (show findS t key v col = (Val.zero, 13) by
      unfold findS
      rw [HR.out, if_neg (by simp), if_pos (Or.inr (by omega))])
    have r0 := HBR2.out.cell (i := 0) rfl
    have r1 := HBR2.out.cell (i := 1) rfl
    have r2 := HBR2.out.cell (i := 2) rfl
    have r3 := HBR2.out.cell (i := 3) rfl
    have r4 := HBR2.out.cell (i := 4) rfl
    have r5 := HBR2.out.cell (i := 5) rfl
    have r6 := HBR2.out.cell (i := 6) rfl
    have rf := HBR2.out.frozen
    go_wp2
    rw [HF.out]
    refine bodyPost_ret (v := .tuple #[(.agg #[.int .i64 Val.zero.kind, .string Val.zero.s, .int .i64 Val.zero.dn, .int .i64 Val.zero.ds, .int .i64 Val.zero.n, .slice none Val.zero.cols.length 0, .slice none Val.zero.rows.length 0]), .int .i64 13]) (by simp [results, Tryz.results12, go_sem, r0, r1, r2, r3, r4, r5, r6, rf, hz4, Val.zero]) rfl ⟨none, 0, none, 0, rfl, ⟨Nat.le_refl _, Nat.le_refl _⟩, RV.zero, ?_⟩
    iterate 7 with_reducible refine Ext.set2 ?_ (by omega) _
    with_reducible exact HX2.out
  obtain ⟨k, hk1, hk2, -⟩ := idxS_at hk
  obtain ⟨cc, hc1, hc2, -⟩ := idxS_at hc
  have HF := Lib.hid (show findS t key v col = findRows k cc v t.rows by
    unfold findS
    rw [HR.out, if_neg (by simp), if_neg (by omega), hk1, hc1]
    simp)
  rw [hk1, hc1, HF.out]
  clear hk hc hk1 hc1
  go_wp2
  have HTB := Lib.hid (lookR_tab HR.out)
  go_loopw [36] (fun i wr => ∃ m : Nat, m ≤ t.rows.length ∧ i = .int .i64 m ∧ Ext w2 wr ∧ findRows k cc v (t.rows.drop m) = findRows k cc v t.rows) (fun i _ => t.rows.length - (intOf i).toNat)
  case atStart => exact ⟨0, Nat.zero_le _, rfl, Ext.refl _, rfl⟩
  case round =>
    obtain ⟨m, hm, rfl, hext, hfr⟩ := hrel
    have HFR := Lib.hid hfr
    have HE := Lib.hid hext
    clear hfr g3
    by_cases hlt : m < t.rows.length
    · obtain ⟨b1, o1, A2, c2, rfl, z1, p0, hcr, hrow⟩ := (HL2.out.2.2.keep (hext.kept S)).at_ hlt
      have hll := tableR_row HTB.out hlt
      have hkr : k < t.rows[m].length := by omega
      have hcr2 : cc < t.rows[m].length := by omega
      obtain ⟨b2, o2, A5, c5, B5, e5, rfl, z2, ⟨q0, q1, q2, q3, q4, q5, q6⟩, ⟨hd, _, _⟩, hv5⟩ := hrow.at_ hkr
      have hrl2 := hrow.len
      have hdr : t.rows.drop m = t.rows[m] :: t.rows.drop (m + 1) := List.drop_eq_getElem_cons hlt
      have hgd : (t.rows[m].getD k Val.zero) = t.rows[m][k] := getD_of _ _ _ hkr
      have hgc : (t.rows[m].getD cc Val.zero) = t.rows[m][cc] := getD_of _ _ _ hcr2
      have HV5 := Lib.hid hv5
      have HROW := Lib.hid hrow
      have hbv := HBV2.out.keep (hext.kept _)
      have v0 := hbv.cell (i := 0) rfl
      have v1 := hbv.cell (i := 1) rfl
      have v2 := hbv.cell (i := 2) rfl
      have v3 := hbv.cell (i := 3) rfl
      have v4 := hbv.cell (i := 4) rfl
      have v5 := hbv.cell (i := 5) rfl
      have v6 := hbv.cell (i := 6) rfl
      have HDR := Lib.hid hdr
      have HGD := Lib.hid hgd
      have HGC := Lib.hid hgc
      clear hbv hdr hgd hgc hrow hv5 hext hll
      go_wp2
      go_still_tail 5, (by kernel_rfl)
      go_wp2_with fail
      refine (table_is d t.rows[m][k] v A5 B5 Av Bv c5 e5 cv ev _ S T ((HV5.out.up (by omega)).keep (Kept.drew _ _)) ((HV.out.keep ((HX2.out.trans HE.out).kept T)).keep (Kept.drew _ _))).mono ?_
      rintro e1 w3 ⟨rfl, hx3⟩
      have HX3 := Lib.hid (HE.out.drew.trans hx3)
      have HX3' := Lib.hid (((Ext.refl wr).drew).trans hx3)
      clear hx3 v0 v1 v2 v3 v4 v5 v6
      cases his : isB t.rows[m][k] v
      · have HK := Lib.hid (show findRows k cc v (t.rows.drop (m + 1)) = findRows k cc v t.rows by rw [← HFR.out, HDR.out, findRows, HGD.out, his]; simp)
        clear his
        go_wp2
        go_roundw
        case rel => exact ⟨m + 1, by omega, by go_num, HX3.out, HK.out⟩
        case measure => simp [intOf]; omega
      · obtain ⟨b3, o3, A6, c6, B6, e6, hb3, z3, ⟨q0', q1', q2', q3', q4', q5', q6'⟩, ⟨hd', _, _⟩, hv6⟩ := (HROW.out.keep (HX3'.out.kept S)).at_ hcr2
        injection hb3 with hb3
        injection hb3 with hb3 hb4
        subst hb3
        subst hb4
        have HV6 := Lib.hid hv6
        clear hv6
        have hbr := HBR2.out.keep (HX3.out.kept _)
        have r0 := hbr.cell (i := 0) rfl
        have r1 := hbr.cell (i := 1) rfl
        have r2 := hbr.cell (i := 2) rfl
        have r3 := hbr.cell (i := 3) rfl
        have r4 := hbr.cell (i := 4) rfl
        have r5 := hbr.cell (i := 5) rfl
        have r6 := hbr.cell (i := 6) rfl
        have rf := hbr.frozen
        have hz5 := hbr.lt
        have HBR3 := Lib.hid hbr
        clear hbr
        by_cases hk0 : t.rows[m][cc].kind = 0
        · have hk0' : (t.rows[m][cc].kind == 0) = true := by simp [hk0]
          have HK := Lib.hid (show findRows k cc v t.rows = (Val.zero, 18) by rw [← HFR.out, HDR.out, findRows, HGD.out, HGC.out, his, if_pos rfl, if_pos hk0])
          clear his hk0
          go_wp2
          rw [HF.out, HK.out]
          refine bodyPost_ret (v := .tuple #[(.agg #[.int .i64 Val.zero.kind, .string Val.zero.s, .int .i64 Val.zero.dn, .int .i64 Val.zero.ds, .int .i64 Val.zero.n, .slice none Val.zero.cols.length 0, .slice none Val.zero.rows.length 0]), .int .i64 18]) (by simp [results, Tryz.results12, go_sem, r0, r1, r2, r3, r4, r5, r6, rf, hz5, Val.zero]) rfl ⟨none, 0, none, 0, rfl, ⟨Nat.le_refl _, Nat.le_refl _⟩, RV.zero, ?_⟩
          iterate 7 with_reducible refine Ext.set2 ?_ (by omega) _
          exact HX2.out.trans HX3.out
        · have hk0' : (t.rows[m][cc].kind == 0) = false := by simp [hk0]
          have HK := Lib.hid (show findRows k cc v t.rows = (t.rows[m][cc], 0) by rw [← HFR.out, HDR.out, findRows, HGD.out, HGC.out, his, if_pos rfl, if_neg hk0])
          clear his hk0
          go_wp2_with fail
          refine (value_Copy d t.rows[m][cc] A6 B6 c6 e6 _ S (HV6.out.up (by omega))).mono ?_
          rintro e1 w4 ⟨A7, c7, B7, e7, rfl, hcp7, hv7, hx4⟩
          have HX4 := Lib.hid hx4
          have HV7 := Lib.hid hv7
          clear r0 r1 r2 r3 r4 r5 r6 rf hz5 hv7
          have hbr := HBR3.out.keep (hx4.kept _)
          have r0 := hbr.cell (i := 0) rfl
          have r1 := hbr.cell (i := 1) rfl
          have r2 := hbr.cell (i := 2) rfl
          have r3 := hbr.cell (i := 3) rfl
          have r4 := hbr.cell (i := 4) rfl
          have r5 := hbr.cell (i := 5) rfl
          have r6 := hbr.cell (i := 6) rfl
          have rf := hbr.frozen
          have hz5 := hbr.lt
          have HBL := Lib.hid HBR3.out.lt
          clear hbr hx4
          go_wp2
          rw [HF.out, HK.out]
          refine bodyPost_ret (v := .tuple #[(.agg #[.int .i64 t.rows[m][cc].kind, .string t.rows[m][cc].s, .int .i64 t.rows[m][cc].dn, .int .i64 t.rows[m][cc].ds, .int .i64 t.rows[m][cc].n, .slice A7 t.rows[m][cc].cols.length c7, .slice B7 t.rows[m][cc].rows.length e7]), .int .i64 0]) (by simp [results, Tryz.results12, go_sem, r0, r1, r2, r3, r4, r5, r6, rf, hz5]) rfl ⟨A7, c7, B7, e7, rfl, hcp7, (HV7.out.move (T := Fresh w) (S := Fresh w3) ?_ ?_), ?_⟩
          · iterate 7 with_reducible refine Kept.set2 ?_ (by have := HBL.out; unfold Fresh; omega)
            with_reducible exact Kept.refl _ _
          · intro i _ hi
            have := (HX2.out.trans HX3.out).size
            unfold Fresh at hi ⊢
            omega
          · iterate 7 with_reducible refine Ext.set2 ?_ (by omega) _
            exact HX2.out.trans (HX3.out.trans HX4.out)
    · have HK := Lib.hid (show findRows k cc v t.rows = (Val.zero, 18) by rw [← HFR.out, List.drop_eq_nil_of_le (by omega)]; rfl)
      have hbr := HBR2.out.keep (hext.kept _)
      have r0 := hbr.cell (i := 0) rfl
      have r1 := hbr.cell (i := 1) rfl
      have r2 := hbr.cell (i := 2) rfl
      have r3 := hbr.cell (i := 3) rfl
      have r4 := hbr.cell (i := 4) rfl
      have r5 := hbr.cell (i := 5) rfl
      have r6 := hbr.cell (i := 6) rfl
      have rf := hbr.frozen
      have hz5 := hbr.lt
      clear hbr hext
      go_wp2
      rw [HF.out, HK.out]
      refine bodyPost_ret (v := .tuple #[(.agg #[.int .i64 Val.zero.kind, .string Val.zero.s, .int .i64 Val.zero.dn, .int .i64 Val.zero.ds, .int .i64 Val.zero.n, .slice none Val.zero.cols.length 0, .slice none Val.zero.rows.length 0]), .int .i64 18]) (by simp [results, Tryz.results12, go_sem, r0, r1, r2, r3, r4, r5, r6, rf, hz5, Val.zero]) rfl ⟨none, 0, none, 0, rfl, ⟨Nat.le_refl _, Nat.le_refl _⟩, RV.zero, ?_⟩
      iterate 7 with_reducible refine Ext.set2 ?_ (by omega) _
      exact HX2.out.trans HE.out
end Go.Proofs.YtcmmkeiiapbgcaaGreatDoor
