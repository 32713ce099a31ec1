/- The reference's Make. Conditions: the answers read as data, and hold no tables. -/
import Derived.Test.YtomdpipekmcojaaGreatDoorBm21
namespace Go.Proofs.YtomdpipekmcojaaGreatDoor
open Go Go.RowKit

theorem errM_errP (l : List (List Val)) (h : Int) : errM l h = if errP l h ≠ 0 then errP l h else if h < (depA l : Int) then 16 else 0 := by
 unfold errM errP
 split
 ·rw [if_pos (by decide)]
 ·split
  ·rw [if_pos (by decide)]
  ·simp
theorem errP_wide {l : List (List Val)} {h : Int} (he : errP l h = 0) : Wide l (inpS l) ∧ rightA l = true ∧ inpS l ≤ 10 := by
 unfold errP at he
 split at he
 ·cases he
 ·rename_i h1
  split at he
  ·cases he
  ·rename_i h2
   have hr : rightA l = true := by
    cases hra : rightA l with
    | true => rfl
    | false => exact absurd (Or.inl hra) h1
   exact ⟨rightA_wide hr, hr, by omega⟩
theorem made_empty {l : List (List Val)} {hz : Int} (h : errM l hz ≠ 0) : makeF l hz = ([], 0, 0) := by unfold makeF; rw [if_neg h]
set_option maxRecDepth 100000 in
set_option maxHeartbeats 2000000 in
theorem r25_Make (d : Nat) (l : List (List Val)) (A : Option Addr) (c : Nat) (hz : Int) (w : World) (S : Nat → Prop) (hr : Rows w S d A l) (hk : NoT l) (hT : rightA l = true → Tri l) (hl : l.length < 20) :
  Calls Tryz.prog 15 #[.slice A l.length c, .int .i64 hz] w (RetPn w d (makeF l hz) (errM l hz)) := by
 obtain ⟨n, en⟩ : ∃ n, n = l.length := ⟨_, rfl⟩
 have HNE := Hd en
 have hn20 : n < 20 := by omega
 obtain ⟨w0, hw0⟩ : ∃ w0, w0 = w.alloc (.cells #[.slice none 0 0, .int .i64 0, .int .i64 0] 29) := ⟨_, rfl⟩
 obtain ⟨b4, hb4⟩ : ∃ b4, b4 = w.heap.size := ⟨_, rfl⟩
 have hx0 : Ext w w0 := by rw [hw0]; exact (Ext.refl w).alloc _
 have hbk : Blk w0 b4 29 #[.slice none 0 0, .int .i64 0, .int .i64 0] := by rw [hw0, hb4]; exact Blk.new _ _ _
 have HW0 := Hd hw0
 have HB4E := Hd hb4
 have HX0 := Hd hx0
 have HBK := Hd hbk
 have HR := Hd hr
 have HK := Hd hk
 have HT := Hd hT
 have HLN := Hd hl
 have HPE := Hd (r25_permitted d l A c hz w0 S (hr.keep (hx0.kept S)) hk)
 rw [← en] at HPE ⊢
 clear hr hk hT hl hw0 hb4 hx0 hbk en
 go_enter Tryz.func15, Tryz.ntmps15
 go_upto_region 1 with fail
 rw [← HW0.out, ← HB4E.out]
 go_wp2_with fail
 refine HPE.out.mono ?_
 rintro e1 w1 ⟨rfl, hx1⟩
 have HX1 := Hd (HX0.out.trans hx1)
 have hbk1 := HBK.out.keep (hx1.kept _)
 have HB1 := Hd hbk1
 have HZB := Hd (show w.heap.size ≤ b4 by rw [HB4E.out]; exact Nat.le_refl _)
 obtain ⟨ep, eep⟩ : ∃ ep, ep = errP l hz := ⟨_, rfl⟩
 have HEP := Hd eep
 rw [← eep]
 clear eep
 have r0 := hbk1.cell (i := 0) rfl
 have r1 := hbk1.cell (i := 1) rfl
 have r2 := hbk1.cell (i := 2) rfl
 have f0 := hbk1.frozen 0
 have f1 := hbk1.frozen 1
 have f2 := hbk1.frozen 2
 have z1 := hbk1.lt
 clear hx1 hbk1
 by_cases h0 : ep = 0
 ·have j0 : (ep != 0) = false := by rw [h0]; rfl
  have hww := errP_wide (l := l) (h := hz) (by rw [← HEP.out]; exact h0)
  have HEM := Hd (show errM l hz = if hz < (depA l : Int) then 16 else 0 by rw [errM_errP, if_neg (by rw [← HEP.out, h0]; decide)])
  have HAR := Hd (show ∀ w' : World, Ext w w' → AnsR w' S d A l from fun w' hx => ⟨HR.out.keep (hx.kept S), HK.out, HT.out hww.2.1, hww.1, by omega⟩)
  clear h0 hww r0 r1 r2 f0 f1 f2 z1
  go_wp2_with fail
  refine (r25_All n (by omega) w1).mono ?_
  rintro e2 w2 ⟨A2, c2, rfl, ho2, hx2⟩
  have HX2 := Hd (HX1.out.trans hx2)
  have HX12 := Hd hx2
  have HPR := Hd (show ∀ w' : World, Ext w2 w' → ProR w' (fun _ => True) A2 l.length (List.range n) from fun w' hx => ⟨⟨((Own.rd ho2).mono fun _ _ _ => trivial).keep (hx.kept _), by simp; omega⟩, fun x hx => by rw [← HNE.out]; exact List.mem_range.1 hx, by simp; omega⟩)
  have HDE := Hd (r25_Depth n d l A c (List.range n) A2 c2 w2 S _ (by simp) (HAR.out w2 HX2.out) (HPR.out w2 (Ext.refl _)))
  have HDA := Hd (show depA l = dep (spl l) (inpS l) (List.range n) by unfold depA allP; rw [HNE.out])
  have HPA := Hd (show planA l = plan (spl l) (inpS l) (ans l) (List.range n) 0 by unfold planA allP; rw [HNE.out])
  rw [← HDA.out, ← HNE.out, List.length_range] at HDE
  obtain ⟨dp, edp⟩ : ∃ dp, dp = depA l := ⟨_, rfl⟩
  have HDP := Hd edp
  rw [← edp] at HDE HEM
  rw [List.length_range]
  clear ho2 hx2 edp
  go_wp2_with fail
  refine HDE.out.mono ?_
  rintro e3 w3 ⟨rfl, hx3⟩
  have HX3 := Hd (HX2.out.trans hx3)
  have hbk3 := (HB1.out.keep (HX12.out.kept _)).keep (hx3.kept _)
  have HB3 := Hd hbk3
  clear hx3
  by_cases hdh : hz < (dp : Int)
  ·have HER := Hd (show errM l hz = 16 by rw [HEM.out, if_pos hdh])
   have HMF := Hd (made_empty (l := l) (hz := hz) (by rw [HER.out]; decide))
   have r0 := hbk3.cell (i := 0) rfl
   have r1 := hbk3.cell (i := 1) rfl
   have r2 := hbk3.cell (i := 2) rfl
   have f0 := hbk3.frozen 0
   have f1 := hbk3.frozen 1
   have f2 := hbk3.frozen 2
   have z1 := hbk3.lt
   go_wp2
   refine bodyPost_ret (v := .tuple #[.agg #[.slice none 0 0, .int .i64 0, .int .i64 0], .int .i64 16]) (by simp [results, Tryz.results15, go_sem, r0, r1, r2]) rfl ⟨none, 0, by rw [HER.out, HMF.out]; rfl, by rw [HMF.out]; exact OwnAs.nil _ _ _ _, ?_⟩
   exact ((HX3.out.set2 HZB.out _).set2 HZB.out _).set2 HZB.out _
  ·have HER := Hd (show errM l hz = 0 by rw [HEM.out, if_neg hdh])
   have HMF := Hd (show makeF l hz = (planA l, dp, lowF l) by unfold makeF; rw [if_pos HER.out, ← HDP.out])
   clear hbk3 HPR HDE
   go_wp2_with fail
   refine (r25_All n (by omega) w3).mono ?_
   rintro e4 w4 ⟨A4, c4, rfl, ho4, hx4⟩
   have HX4 := Hd (HX3.out.trans hx4)
   have HPL := Hd (r25_plan n d l A c (List.range n) A4 c4 0 w4 S (fun _ => True) (by simp) (HAR.out w4 HX4.out) ⟨⟨(Own.rd ho4).mono fun _ _ _ => trivial, by simp; omega⟩, fun x hx => by rw [← HNE.out]; exact List.mem_range.1 hx, by simp; omega⟩ (by simp; omega))
   rw [← HPA.out, ← HNE.out, List.length_range] at HPL
   rw [List.length_range]
   have HB4 := Hd (HB3.out.keep (hx4.kept _))
   obtain ⟨np, enp⟩ : ∃ np, np = (planA l).length := ⟨_, rfl⟩
   have HNP := Hd enp
   clear ho4 hx4 enp
   go_wp2_with fail
   refine HPL.out.mono ?_
   rintro e5 w5 ⟨A5, c5, rfl, ho5, hx5⟩
   rw [← HNP.out]
   have HO5 := Hd ho5
   have HX5 := Hd hx5
   have HXB := Hd (HX4.out.trans hx5)
   have HLO := Hd (r25_Lower d l A c w5 S (HAR.out w5 HXB.out) HLN.out)
   rw [← HNE.out] at HLO
   obtain ⟨lo, elo⟩ : ∃ lo, lo = lowF l := ⟨_, rfl⟩
   have HLE := Hd elo
   rw [← elo] at HLO HMF
   clear ho5 hx5 elo HPL
   go_wp2_with fail
   refine HLO.out.mono ?_
   rintro e6 w6 ⟨rfl, hx6⟩
   have HX6 := Hd hx6
   have hbk6 := (HB4.out.keep (HX5.out.kept _)).keep (hx6.kept _)
   have HB6 := Hd hbk6
   have r0 := hbk6.cell (i := 0) rfl
   have r1 := hbk6.cell (i := 1) rfl
   have r2 := hbk6.cell (i := 2) rfl
   have f0 := hbk6.frozen 0
   have f1 := hbk6.frozen 1
   have f2 := hbk6.frozen 2
   have z1 := hbk6.lt
   clear hx6 hbk6
   go_wp2
   refine bodyPost_ret (v := .tuple #[.agg #[.slice A5 np c5, .int .i64 (dp : Int), .int .i64 (lo : Int)], .int .i64 0]) (by simp [results, Tryz.results15, go_sem, r0, r1, r2]) rfl ⟨A5, c5, ?_, ?_, (((HXB.out.trans HX6.out).set2 HZB.out _).set2 HZB.out _).set2 HZB.out _⟩
   ·rw [HER.out, HMF.out, HNP.out]
   ·rw [HMF.out]
    have h0 := HX4.out.size
    have h4 := HB4.out.lt
    have h1 := ((HO5.out.ext HX6.out).lower (base' := w.heap.size) h0).mono (T := fun b => w.heap.size ≤ b ∧ b ≠ b4) fun b _ e => ⟨by omega, by omega⟩
    have hne : ¬ (ob A5 = some b4 ∨ (w.heap.size ≤ b4 ∧ b4 ≠ b4)) := by
     rintro (e | e)
     ·have := (HO5.out.blk e).1; omega
     ·exact e.2 rfl
    exact (((h1.keep (Kept.of_set hne)).keep (Kept.of_set hne)).keep (Kept.of_set hne)).mono fun b _ e => e.1
 ·have j0 : (ep != 0) = true := by rw [bne_iff_ne]; exact h0
  have HER := Hd (show errM l hz = ep by rw [errM_errP, if_pos (by rw [← HEP.out]; exact h0), HEP.out])
  have HMF := Hd (made_empty (l := l) (hz := hz) (by rw [HER.out]; exact h0))
  clear h0
  go_wp2
  refine bodyPost_ret (v := .tuple #[.agg #[.slice none 0 0, .int .i64 0, .int .i64 0], .int .i64 ep]) (by simp [results, Tryz.results15, go_sem, r0, r1, r2]) rfl ⟨none, 0, by rw [HER.out, HMF.out]; rfl, by rw [HMF.out]; exact OwnAs.nil _ _ _ _, ?_⟩
  exact ((HX1.out.set2 HZB.out _).set2 HZB.out _).set2 HZB.out _
/- The law QuestionMakes: plans are those of the reference, and are accepted. Conditions: the numbers read as data. -/

theorem hz_cell {w : World} {g k : Nat} {hz : Int} (hb : Blk w g 3 #[.int .i64 hz, .int .i64 6, .int .i64 2]) (hk : k < 3) : ∃ h : Int, w.cell? ⟨g, k, none⟩ = some (.int .i64 h) := by
 match k, hk with
 | 0, _ => exact ⟨_, hb.cell (i := 0) rfl⟩
 | 1, _ => exact ⟨_, hb.cell (i := 1) rfl⟩
 | 2, _ => exact ⟨_, hb.cell (i := 2) rfl⟩
theorem makeF_len (l : List (List Val)) (h : Int) : (makeF l h).1.length ≤ l.length := by
 unfold makeF
 split
 ·show (planA l).length ≤ l.length
  by_cases e : allP l = []
  ·have h1 : dep (spl l) (inpS l) (allP l) = 0 := by
    have := dep_len (spl_small l) (inpS l) (allP l)
    rw [e] at this ⊢
    simp at this
    omega
   unfold planA
   rw [plan_eq (spl_small l), if_pos h1]
   simp
  ·have := plan_len l (inpS l) (ans l) _ (allP l) 0 (Nat.le_refl _) e
   unfold planA
   have h2 : (allP l).length = l.length := by simp [allP]
   omega
 ·simp
theorem makeF_low {l : List (List Val)} {h : Int} : (makeF l h).2.2 ≤ (makeF l h).2.1 := by
 unfold makeF
 split
 ·exact low_le l
 ·exact Nat.le_refl _
set_option maxRecDepth 100000 in
set_option maxHeartbeats 2000000 in
theorem law_Makes (l : List (List Int)) (hz : Int) (A : Option Addr) (c : Nat) (w : World) (S : Nat → Prop) (ht : Tens w) (h : II w S A l) (hac : l.length ≤ c) : Calls Tryz.prog 3 #[.slice A l.length c, .int .i64 hz] w (RetB w true) := by
 have HT := Hd ht
 have HI := Hd h
 have hll := h.1
 obtain ⟨n, en⟩ : ∃ n, n = l.length := ⟨_, rfl⟩
 have HN := Hd en
 rw [← en] at hll hac ⊢
 clear ht h en
 go_enter Tryz.func3, Tryz.ntmps3
 go_wp2_with fail
 refine (l25_sanity w HT.out).mono ?_
 rintro e1 w1 ⟨rfl, hx1⟩
 have HX1 := Hd hx1
 clear hx1
 obtain ⟨m, em⟩ : ∃ m : Nat, m = min n 7 := ⟨_, rfl⟩
 have hm9 : m ≤ 7 := by omega
 have hmn : m ≤ n := by omega
 have hmc : m ≤ c := by omega
 have HM := Hd (show (if (n : Int) < 7 then (n : Int) else 7) = (m : Int) by split <;> omega)
 have HM2 := Hd (show min (n : Int) 7 = (m : Int) by omega)
 clear em
 go_wp2_with fail
 rw [HM2.out, Int.toNat_natCast]
 have hlm : (l.take m).length = m := by rw [List.length_take, ← HN.out]; omega
 have HMD := Hd (r25_Made (l.take m) A c w1 S ((HI.out.keep (HX1.out.kept S)).take m))
 rw [hlm] at HMD
 refine HMD.out.mono ?_
 rintro e2 w2 ⟨L, A2, c2, rfl, hv, hwd, h12, ho, hx2⟩
 have HX2 := Hd hx2
 have h10 : min (hdI (l.take m)) 10 ≤ 10 := by omega
 have HTR := Hd (made_cells hv).tri
 have HNT := Hd (made_cells hv).noT
 have hin10 : inpS L ≤ 10 := by have := made_inp hwd; omega
 have hcap : L.length ≤ c2 := by obtain ⟨xs, h1, _⟩ := ho; exact Own.cap h1
 have HRW := Hd ((ho.mono (T := fun b => b < w2.heap.size) fun b hb _ => hb).rows (T := fun b => b < w2.heap.size) (by omega) (fun b hb => (ho.blk hb).2) (fun b hb => hb))
 obtain ⟨nL, enL⟩ : ∃ nL, nL = L.length := ⟨_, rfl⟩
 have HNL := Hd enL
 have HEN := Hd hin10
 rw [← enL] at h12 hcap ⊢
 have HMK := Hd (show ∀ (h : Int) (w' : World), Ext w2 w' → Calls Tryz.prog 14 #[.slice A2 nL c2, .int .i64 h] w' (RetPn w' 1 (makeF L h) (errM L h)) from fun h w' hx => by
  have h1 := question_Make 1 L A2 c2 h w' _ (HRW.out.keep (hx.kept _)) (fun b hb => Nat.lt_of_lt_of_le hb hx.size) HNT.out (by rw [← HNL.out]; omega) (by have := HEN.out; omega) (by rw [← HNL.out]; exact hcap) (HT.out.kept (((HX1.out.trans HX2.out).trans hx).kept fun _ => True) trivial)
  rw [← HNL.out] at h1
  exact h1)
 have HRM := Hd (show ∀ (h : Int) (w' : World), Ext w2 w' → Calls Tryz.prog 15 #[.slice A2 nL c2, .int .i64 h] w' (RetPn w' 1 (makeF L h) (errM L h)) from fun h w' hx => by
  have h1 := r25_Make 1 L A2 c2 h w' _ (HRW.out.keep (hx.kept _)) HNT.out (fun _ => HTR.out) (by rw [← HNL.out]; omega)
  rw [← HNL.out] at h1
  exact h1)
 have HCK := Hd (show ∀ (h : Int) (w' : World) (A' : Option Addr) (c' : Nat), Ext w2 w' → AS w' (fun _ => True) 1 A' (makeF L h).1 → Calls Tryz.prog 17 #[.slice A2 nL c2, .int .i64 h, .agg #[.slice A' (makeF L h).1.length c', .int .i64 ((makeF L h).2.1 : Int), .int .i64 ((makeF L h).2.2 : Int)]] w' (RetB w' (decide (errM L h = 0))) from fun h w' A' c' hx hp => by
  have h1 := question_Check 1 L A2 c2 h A' c' w' (fun b => b < w'.heap.size) ((HRW.out.keep (hx.kept _)).mono fun b hb _ => hb) (fun _ hb => hb) HNT.out (by rw [← HNL.out]; omega) (by have := HEN.out; omega) (by rw [← HNL.out]; exact hcap) (HT.out.kept (((HX1.out.trans HX2.out).trans hx).kept fun _ => True) trivial) (hp.mono fun b hb _ => hb)
  rw [← HNL.out] at h1
  exact h1)
 clear hv hwd ho hx2 enL hlm HMD h10 hin10
 obtain ⟨gH, egH⟩ : ∃ g, g = w2.heap.size := ⟨_, rfl⟩
 obtain ⟨w3, hw3⟩ : ∃ w3, w3 = w2.alloc (.cells #[.int .i64 hz, .int .i64 6, .int .i64 2] 3) := ⟨_, rfl⟩
 have HBH := Hd (show Blk w3 gH 3 #[.int .i64 hz, .int .i64 6, .int .i64 2] by rw [hw3, egH]; exact Blk.new _ _ _)
 have HX3 := Hd (show Ext w2 w3 by rw [hw3]; exact (Ext.refl _).alloc _)
 have HXW := Hd (HX1.out.trans HX2.out)
 go_wp2
 rw [← hw3, ← egH]
 clear hw3 egH
 go_loopw [8, 9, 10, 11, 12, 23] (fun _u8 _u9 _u10 _u11 _u12 i wr => ∃ k : Nat, k ≤ 3 ∧ i = .int .i64 (k : Int) ∧ Ext w3 wr) (fun _ _ _ _ _ i _ => 3 - (intOf i).toNat)
 case atStart => exact ⟨0, by omega, rfl, Ext.refl _⟩
 case round =>
  obtain ⟨k, hk, rfl, hx⟩ := hrel
  obtain ⟨ws, rfl⟩ : ∃ ws : World, ws = wr := ⟨_, rfl⟩
  have HX := Hd hx
  by_cases hlt : k < 3
  ·have hbh := HBH.out.keep (hx.kept _)
   obtain ⟨h, hc⟩ := hz_cell hbh hlt
   have i0 : (0 : Int) ≤ (k : Int) := by omega
   have i1 : (k : Int) < 3 := by omega
   clear hx hbh
   go_wp2_with fail
   refine (HMK.out h ws (HX3.out.trans HX.out)).mono ?_
   rintro e3 w4 ⟨A3, c3, rfl, ho3, hx4⟩
   have HX4 := Hd ((HX3.out.trans HX.out).trans hx4)
   have HT4 := Hd (HX.out.trans hx4)
   have hYl := makeF_len L h
   have hlo := makeF_low (l := L) (h := h)
   have HCH := Hd (HCK.out h)
   obtain ⟨Y, eY⟩ : ∃ Y, Y = (makeF L h).1 := ⟨_, rfl⟩
   obtain ⟨dp, edp⟩ : ∃ x, x = (makeF L h).2.1 := ⟨_, rfl⟩
   obtain ⟨lo, elo⟩ : ∃ x, x = (makeF L h).2.2 := ⟨_, rfl⟩
   obtain ⟨er, eer⟩ : ∃ x, x = errM L h := ⟨_, rfl⟩
   have HRH := Hd (HRM.out h)
   rw [← eY] at hYl ho3
   rw [← elo, ← edp] at hlo
   rw [← eY, ← elo, ← edp, ← eer] at HCH ⊢
   have HRP := Hd (show ∀ w' e w'', RetPn w' 1 (makeF L h) (errM L h) e w'' → ∃ (A : Option Addr) (c : Nat), e = .returned (.tuple #[.agg #[.slice A Y.length c, .int .i64 (dp : Int), .int .i64 (lo : Int)], .int .i64 er]) ∧ OwnAs w'' w'.heap.size (fun b => w'.heap.size ≤ b) 1 A c Y ∧ Ext w' w'' by
    intro w' e w'' hp
    rw [eY, edp, elo, eer]
    exact hp)
   obtain ⟨nY, enY⟩ : ∃ x, x = Y.length := ⟨_, rfl⟩
   have HNY := Hd enY
   have HO3 := Hd ho3
   rw [← enY] at hYl HCH HRP ⊢
   obtain ⟨b9, hb9⟩ : ∃ b, b = w4.heap.size := ⟨_, rfl⟩
   obtain ⟨w5, hw5⟩ : ∃ w, w = w4.alloc (.cells #[.slice A3 nY c3, .int .i64 (dp : Int), .int .i64 (lo : Int)] 29) := ⟨_, rfl⟩
   have HB9 := Hd (show Blk w5 b9 29 #[.slice A3 nY c3, .int .i64 (dp : Int), .int .i64 (lo : Int)] by rw [hw5, hb9]; exact Blk.new _ _ _)
   have HX45 := Hd (show Ext w4 w5 by rw [hw5]; exact (Ext.refl _).alloc _)
   have HX5 := Hd (HX4.out.trans HX45.out)
   clear hc ho3 hx4 eY edp elo eer enY
   go_upto_region 7 with fail
   rw [← hw5, ← hb9]
   clear hw5 hb9
   go_wp2_with fail
   refine (HRH.out w5 HX5.out).mono ?_
   intro e6 w6 hr6
   obtain ⟨A6, c6, rfl, ho6, hx6⟩ := HRP.out _ _ _ hr6
   have HO6 := Hd ho6
   have HX6 := Hd hx6
   obtain ⟨b11, hb11⟩ : ∃ b, b = w6.heap.size := ⟨_, rfl⟩
   obtain ⟨w7, hw7⟩ : ∃ w, w = w6.alloc (.cells #[.slice A6 nY c6, .int .i64 (dp : Int), .int .i64 (lo : Int)] 29) := ⟨_, rfl⟩
   have HB11 := Hd (show Blk w7 b11 29 #[.slice A6 nY c6, .int .i64 (dp : Int), .int .i64 (lo : Int)] by rw [hw7, hb11]; exact Blk.new _ _ _)
   have HX67 := Hd (show Ext w6 w7 by rw [hw7]; exact (Ext.refl _).alloc _)
   have HB97 := Hd (HB9.out.keep ((HX6.out.trans HX67.out).kept _))
   have HT7 := Hd (HT4.out.trans (HX45.out.trans (HX6.out.trans HX67.out)))
   have hY12 : nY ≤ 12 := by have := HNL.out; omega
   have HX7 := Hd (HX5.out.trans (HX6.out.trans HX67.out))
   have HY3 := Hd (((HO3.out.ext HX45.out).ext (HX6.out.trans HX67.out)).as_ (T := fun _ => True) (by rw [← HNY.out]; omega) (fun _ _ => trivial) fun _ _ => trivial)
   have HY6 := Hd ((HO6.out.ext HX67.out).as_ (T := fun _ => True) (by rw [← HNY.out]; omega) (fun _ _ => trivial) fun _ _ => trivial)
   have HSM := Hd (r25_Same 1 Y Y A3 A6 c3 c6 (dp : Int) (lo : Int) (dp : Int) (lo : Int) w7 _ _ HY3.out HY6.out)
   rw [sameP_eq, decide_eq_true rfl, ← HNY.out] at HSM
   clear hr6 ho6 hx6
   go_upto_region 8 with fail
   rw [← hw7, ← hb11]
   clear hw7 hb11
   have q0 := HB97.out.cell (i := 0) rfl
   have q1 := HB97.out.cell (i := 1) rfl
   have q2 := HB97.out.cell (i := 2) rfl
   have s0 := HB11.out.cell (i := 0) rfl
   have s1 := HB11.out.cell (i := 1) rfl
   have s2 := HB11.out.cell (i := 2) rfl
   have j0 : (er != er) = false := by simp
   have j1 : ¬ (dp : Int) < (lo : Int) := by omega
   go_wp2_with fail
   refine HSM.out.mono ?_
   rintro e8 w8 ⟨rfl, hx8⟩
   have HX8 := Hd (HX7.out.trans hx8)
   have HT8 := Hd (HT7.out.trans hx8)
   by_cases her : er = 0
   ·have j2 : (er == 0) = true := by rw [her]; rfl
    have HCH2 := Hd (HCH.out w8 A3 c3 HX8.out (HY3.out.keep (hx8.kept _)))
    have q0 := hx8.cell q0
    have q1 := hx8.cell q1
    have q2 := hx8.cell q2
    rw [decide_eq_true her] at HCH2
    clear hx8 s0 s1 s2
    go_wp2_with fail
    refine HCH2.out.mono ?_
    rintro e9 w9 ⟨rfl, hx9⟩
    have q0 := hx9.cell q0
    have q1 := hx9.cell q1
    have q2 := hx9.cell q2
    have HT9 := Hd (HT8.out.trans hx9)
    clear hx9
    go_wp2
    go_roundw
    case rel => exact ⟨k + 1, by omega, by go_num, HT9.out⟩
    case measure => simp [intOf]; omega
   ·have j2 : (er == 0) = false := by rw [beq_eq_false_iff_ne]; exact her
    clear hx8 s0 s1 s2 q0 q1 q2
    go_wp2
    go_roundw
    case rel => exact ⟨k + 1, by omega, by go_num, HT8.out⟩
    case measure => simp [intOf]; omega
  ·obtain rfl : k = 3 := by omega
   go_wp2
   go_ret
   exact ⟨rfl, HXW.out.trans (HX3.out.trans HX.out)⟩
end Go.Proofs.YtomdpipekmcojaaGreatDoor
