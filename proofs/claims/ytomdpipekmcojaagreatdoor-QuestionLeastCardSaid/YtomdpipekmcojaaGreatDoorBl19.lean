/- The law QuestionLeast: no plan with a horizon that is one less than the depth; the depth lies between the lower bound and the number of programs less 1. Conditions: the numbers read as data. -/
import Derived.Test.YtomdpipekmcojaaGreatDoorBl18
namespace Go.Proofs.YtomdpipekmcojaaGreatDoor
open Go Go.RowKit

theorem II.take {w : World} {S : Nat → Prop} {A : Option Addr} {l : List (List Int)} (h : II w S A l) (k : Nat) : II w S A (l.take k) := by
 obtain ⟨h0, hs, h1, h2, h3⟩ := h
 refine ⟨by rw [List.length_take]; omega, hs.take k, h1.take k, by simp [h2], fun i g hg => ?_⟩
 have hik : i < k := by
  rcases Nat.lt_or_ge i k with h | h
  ·exact h
  ·rw [List.getElem?_take, if_neg (by omega)] at hg; cases hg
 rw [List.getElem?_take, if_pos hik] at hg
 obtain ⟨B, e, h4, h5, h6⟩ := h3 i g hg
 exact ⟨B, e, by rw [List.getElem?_take, if_pos hik]; exact h4, h5, h6⟩
set_option maxRecDepth 100000 in
set_option maxHeartbeats 2000000 in
theorem law_Least (l : List (List Int)) (A : Option Addr) (c : Nat) (w : World) (S : Nat → Prop) (ht : Tens w) (h : II w S A l) (hac : l.length ≤ c) : Calls Tryz.prog 8 #[.slice A l.length c] w (RetB w true) := by
 have HT := Hd ht
 have HI := Hd h
 have hll := h.1
 obtain ⟨n, en⟩ : ∃ n, n = l.length := ⟨_, rfl⟩
 have HN := Hd en
 rw [← en] at hll hac ⊢
 clear ht h en
 go_enter Tryz.func8, Tryz.ntmps8
 go_wp2_with fail
 refine (l25_sanity w HT.out).mono ?_
 rintro e1 w1 ⟨rfl, hx1⟩
 have HX1 := Hd hx1
 clear hx1
 obtain ⟨m, em⟩ : ∃ m : Nat, m = min n 9 := ⟨_, rfl⟩
 have hm9 : m ≤ 9 := by omega
 have hmn : m ≤ n := by omega
 have hmc : m ≤ c := by omega
 have HM := Hd (show (if (n : Int) < 9 then (n : Int) else 9) = (m : Int) by split <;> omega)
 have HM2 := Hd (show min (n : Int) 9 = (m : Int) by omega)
 clear em
 go_wp2_with fail
 rw [HM2.out, Int.toNat_natCast]
 have hlm : (l.take m).length = m := by rw [List.length_take, ← HN.out]; omega
 have HMD := Hd (r25_Made (l.take m) A c w1 S ((HI.out.keep (HX1.out.kept S)).take m))
 rw [hlm] at HMD
 refine HMD.out.mono ?_
 rintro e2 w2 ⟨L, A2, c2, rfl, hv, hwd, h12, ho, hx2⟩
 have HX2 := Hd hx2
 have HV := Hd hv
 have HW := Hd hwd
 have h10 : min (hdI (l.take m)) 10 ≤ 10 := by omega
 have hee := errM_made hv hwd h12 h10
 have HEE := Hd hee
 have HTR := Hd (made_cells hv).tri
 have HNT := Hd (made_cells hv).noT
 have HRT := Hd (made_right hv hwd)
 have hin10 : inpS L ≤ 10 := by have := made_inp hwd; omega
 have hcap : L.length ≤ c2 := by obtain ⟨xs, h1, _⟩ := ho; exact Own.cap h1
 have HRW := Hd ((ho.mono (T := fun b => b < w2.heap.size) fun b hb _ => hb).rows (T := fun b => b < w2.heap.size) (by omega) (fun b hb => (ho.blk hb).2) (fun b hb => hb))
 have hdl := depA_len (spl_small L)
 have hlo := low_le L
 have hus := useful_depth HTR.out HRT.out
 obtain ⟨dp, edp⟩ : ∃ dp, dp = depA L := ⟨_, rfl⟩
 obtain ⟨lo, elo⟩ : ∃ lo, lo = lowF L := ⟨_, rfl⟩
 obtain ⟨N, eN⟩ : ∃ N, N = inpS L := ⟨_, rfl⟩
 obtain ⟨nL, enL⟩ : ∃ nL, nL = L.length := ⟨_, rfl⟩
 have HDP := Hd edp
 have HLO := Hd elo
 have HEN := Hd eN
 have HNL := Hd enL
 have HUS := Hd hus
 rw [← edp] at hdl hlo HUS
 rw [← elo] at hlo
 rw [← enL] at hdl h12 hcap ⊢
 rw [← eN] at hin10
 have HMK := Hd (show ∀ (h : Int) (w' : World), Ext w2 w' → Calls Tryz.prog 14 #[.slice A2 nL c2, .int .i64 h] w' (RetPn w' 1 (makeF L h) (errM L h)) from fun h w' hx => by
  have h1 := question_Make 1 L A2 c2 h w' _ (HRW.out.keep (hx.kept _)) (fun b hb => Nat.lt_of_lt_of_le hb hx.size) HNT.out (by rw [← HNL.out]; omega) (by rw [← HEN.out]; omega) (by rw [← HNL.out]; exact hcap) (HT.out.kept (((HX1.out.trans HX2.out).trans hx).kept fun _ => True) trivial)
  rw [← HNL.out] at h1
  exact h1)
 have HE6 := Hd (show errM L 6 = if 6 < dp then 16 else 0 by
  rw [HEE.out, ← HDP.out, if_neg (by omega)]
  by_cases h : 6 < dp
  ·rw [if_pos (by omega), if_pos h]
  ·rw [if_neg (by omega), if_neg h])
 clear hv hwd ho hx2 hee hus edp elo eN enL hlm HMD
 go_wp2_with fail
 refine (HMK.out 6 w2 (Ext.refl _)).mono ?_
 rintro e3 w3 ⟨A3, c3, rfl, ho3, hx3⟩
 have HX3 := Hd hx3
 rw [HE6.out]
 clear ho3 hx3
 by_cases h6 : 6 < dp
 ·rw [if_pos h6]
  have h7 : 7 < nL := by omega
  go_wp2
  go_ret
  exact ⟨by simp; omega, (((HX1.out.trans HX2.out).trans HX3.out).alloc _)⟩
 ·rw [if_neg h6]
  have HF6 := Hd (show (makeF L 6).2.1 = dp ∧ (makeF L 6).2.2 = lo by unfold makeF; rw [HE6.out, if_neg h6, if_pos rfl]; exact ⟨HDP.out.symm, HLO.out.symm⟩)
  rw [HF6.out.1, HF6.out.2]
  obtain ⟨n3, en3⟩ : ∃ n3, n3 = (makeF L 6).1.length := ⟨_, rfl⟩
  rw [← en3]
  clear en3
  obtain ⟨b5, hb5⟩ : ∃ b, b = w3.heap.size := ⟨_, rfl⟩
  obtain ⟨w4, hw4⟩ : ∃ w4, w4 = w3.alloc (.cells #[.slice A3 n3 c3, .int .i64 (dp : Int), .int .i64 (lo : Int)] 29) := ⟨_, rfl⟩
  have HB5 := Hd (show Blk w4 b5 29 #[.slice A3 n3 c3, .int .i64 (dp : Int), .int .i64 (lo : Int)] by rw [hw4, hb5]; exact Blk.new _ _ _)
  have HX4 := Hd (show Ext w2 w4 by rw [hw4]; exact HX3.out.alloc _)
  go_upto_region 4 with fail
  rw [← hw4, ← hb5]
  clear hw4 hb5
  have q0 := HB5.out.cell (i := 0) rfl
  have q1 := HB5.out.cell (i := 1) rfl
  have q2 := HB5.out.cell (i := 2) rfl
  have hmx : (dp : Int) ≤ max 0 ((nL : Int) - 1) := by omega
  have HED := Hd (show errM L (dp : Int) = 0 by rw [HEE.out, if_neg (by omega), if_neg (by have := HDP.out; omega)])
  go_wp2_with fail
  refine (HMK.out _ w4 HX4.out).mono ?_
  rintro e6 w6 ⟨A6, c6, rfl, ho6, hx6⟩
  rw [HED.out]
  obtain ⟨m6, em6⟩ : ∃ x, x = (makeF L (dp : Int)).2.1 := ⟨_, rfl⟩
  obtain ⟨l6, el6⟩ : ∃ x, x = (makeF L (dp : Int)).2.2 := ⟨_, rfl⟩
  obtain ⟨n6, en6⟩ : ∃ x, x = (makeF L (dp : Int)).1.length := ⟨_, rfl⟩
  rw [← em6, ← el6, ← en6]
  obtain ⟨w7, hw7⟩ : ∃ w7, w7 = w6.alloc (.cells #[.slice A6 n6 c6, .int .i64 (m6 : Int), .int .i64 (l6 : Int)] 29) := ⟨_, rfl⟩
  have hx7 : Ext w4 w7 := by rw [hw7]; exact hx6.alloc _
  have HX7 := Hd (HX4.out.trans hx7)
  have HB7 := Hd (HB5.out.keep (hx7.kept _))
  clear q0 q1 q2 em6 el6 en6 ho6 hx6 hx7
  go_upto_region 9 with fail
  rw [← hw7]
  clear hw7
  have q0 := HB7.out.cell (i := 0) rfl
  have q1 := HB7.out.cell (i := 1) rfl
  have q2 := HB7.out.cell (i := 2) rfl
  go_wp2_with fail
  refine (HMK.out _ w7 HX7.out).mono ?_
  rintro e8 w8 ⟨A8, c8, rfl, ho8, hx8⟩
  obtain ⟨m8, em8⟩ : ∃ x, x = (makeF L ((dp : Int) - 1)).2.1 := ⟨_, rfl⟩
  obtain ⟨l8, el8⟩ : ∃ x, x = (makeF L ((dp : Int) - 1)).2.2 := ⟨_, rfl⟩
  obtain ⟨n8, en8⟩ : ∃ x, x = (makeF L ((dp : Int) - 1)).1.length := ⟨_, rfl⟩
  rw [← em8, ← el8, ← en8]
  obtain ⟨w10, hw10⟩ : ∃ w10, w10 = w8.alloc (.cells #[.slice A8 n8 c8, .int .i64 (m8 : Int), .int .i64 (l8 : Int)] 29) := ⟨_, rfl⟩
  have hx10 : Ext w7 w10 := by rw [hw10]; exact hx8.alloc _
  have HX10 := Hd (HX7.out.trans hx10)
  have HB10 := Hd (HB7.out.keep (hx10.kept _))
  clear q0 q1 q2 em8 el8 en8 ho8 hx8 hx10
  obtain ⟨nu, enu⟩ : ∃ x, x = (usefulS L).length := ⟨_, rfl⟩
  have HNU := Hd enu
  have HUC := Hd (show ∀ w' : World, Ext w10 w' → Calls Tryz.prog 23 #[.slice A2 nL c2] w' (RetN w' (usefulS L)) from fun w' hx => by
   have h1 := question_Useful 1 L A2 c2 w' _ (HRW.out.keep ((HX10.out.trans hx).kept _)) HNT.out (by rw [← HEN.out]; omega)
   rw [← HNL.out] at h1
   exact h1)
  have PD := Hd (HB10.out.cell (i := 1) rfl)
  have q0 := HB10.out.cell (i := 0) rfl
  have q1 := HB10.out.cell (i := 1) rfl
  have q2 := HB10.out.cell (i := 2) rfl
  have HXE := Hd ((HX1.out.trans HX2.out).trans HX10.out)
  go_upto_region 10 with fail
  rw [← hw10]
  clear hw10
  by_cases h0 : dp = 0
  ·have HNZ := Hd (show nu = 0 by rw [enu, HUS.out.2 h0]; rfl)
   have HEM := Hd (show errM L ((dp : Int) - 1) = 1 by rw [HEE.out, if_pos (by omega)])
   rw [HEM.out]
   clear enu
   have HZ2 := Hd (show ((nu : Int) == 0) = true by rw [HNZ.out]; rfl)
   subst h0
   go_upto_region 13 with fail
   refine wp_region_chain (by kernel_rfl) (fun i => [i]) (by kernel_rfl) (LZ (fun _ _ => False)) (LZ.refl _) (LZ.trans _) (LK []) gz0 (LK.zero _) ?_
   apply Chain.pure (LZ.refl _) (by rfl)
   ·intro vals γ w' ρ hR hN hp hρ hc hf hg
    refine ⟨rfl, ?_⟩
    have e3 := hρ 3
    conv at e3 => rhs; whnf
    clear hR hN hp hρ
    go_light
    go_simp
    exact ⟨rfl, rfl⟩
   ·rfl
   apply Chain.pure (LZ.refl _) (by rfl)
   ·intro vals γ w' ρ hR hN hp hρ hc hf hg
    refine ⟨rfl, ?_⟩
    have e73 : ρ (.tmp 73) = _ := (hρ 73).trans (hp 0 (by decide))
    clear hR hN hp hρ
    go_light
    go_simp
    exact ⟨rfl, rfl⟩
   ·rfl
   apply Chain.pure (LZ.refl _) (by rfl)
   ·intro vals γ w' ρ hR hN hp hρ hc hf hg
    refine ⟨by show (boolOf (vals 1) == some true) = true; rw [show vals 1 = .bool true from hp 1 (by decide)]; rfl, ?_⟩
    have e8 := hρ 8
    conv at e8 => rhs; whnf
    clear hR hN hp hρ
    go_light
    go_simp
    exact ⟨rfl, rfl⟩
   ·rfl
   apply Chain.pure (LZ.refl _) (by rfl)
   ·intro vals γ w' ρ hR hN hp hρ hc hf hg
    refine ⟨by show (boolOf (vals 1) == some true) = true; rw [show vals 1 = .bool true from hp 1 (by decide)]; rfl, ?_⟩
    have e75 : ρ (.tmp 75) = _ := (hρ 75).trans (hp 2 (by decide))
    clear hR hN hp hρ
    go_light
    go_simp
    exact ⟨rfl, rfl⟩
   ·rfl
   apply Chain.pure (LZ.refl _) (by rfl)
   ·intro vals γ w' ρ hR hN hp hρ hc hf hg
    refine ⟨rfl, ?_⟩
    have e74 : ρ (.tmp 74) = _ := (hρ 74).trans (hp 1 (by decide))
    have e76 : ρ (.tmp 76) = _ := (hρ 76).trans (hp 3 (by decide))
    clear hR hN hp hρ
    go_light
    go_simp
    exact ⟨rfl, rfl⟩
   ·rfl
   apply Chain.pure (LZ.refl _) (by rfl)
   ·intro vals γ w' ρ hR hN hp hρ hc hf hg
    refine ⟨rfl, ?_⟩
    have e77 : ρ (.tmp 77) = _ := (hρ 77).trans (hp 4 (by decide))
    clear hR hN hp hρ
    go_light
    go_simp
    exact ⟨rfl, rfl⟩
   ·rfl
   apply Chain.pure (LZ.refl _) (by rfl)
   ·intro vals γ w' ρ hR hN hp hρ hc hf hg
    refine ⟨by show (boolOf (vals 5) == some true) = true; rw [show vals 5 = .bool true from hp 5 (by decide)]; rfl, ?_⟩
    have e10 := hρ 10
    conv at e10 => rhs; whnf
    clear hR hN hp hρ
    go_light
    go_simp
    exact ⟨rfl, rfl⟩
   ·rfl
   apply Chain.pure (LZ.refl _) (by rfl)
   ·intro vals γ w' ρ hR hN hp hρ hc hf hg
    refine ⟨by show (boolOf (vals 5) == some true) = true; rw [show vals 5 = .bool true from hp 5 (by decide)]; rfl, ?_⟩
    have e11 := hρ 11
    conv at e11 => rhs; whnf
    clear hR hN hp hρ
    go_light
    go_simp
    exact ⟨rfl, rfl⟩
   ·rfl
   apply Chain.pure (LZ.refl _) (by rfl)
   ·intro vals γ w' ρ hR hN hp hρ hc hf hg
    refine ⟨by show (boolOf (vals 5) == some true) = true; rw [show vals 5 = .bool true from hp 5 (by decide)]; rfl, ?_⟩
    have e79 : ρ (.tmp 79) = _ := (hρ 79).trans (hp 6 (by decide))
    have e80 : ρ (.tmp 80) = _ := (hρ 80).trans (hp 7 (by decide))
    clear hR hN hp hρ
    go_light
    go_simp
    exact ⟨rfl, rfl⟩
   ·rfl
   apply Chain.pure (LZ.refl _) (by rfl)
   ·intro vals γ w' ρ hR hN hp hρ hc hf hg
    refine ⟨rfl, ?_⟩
    have e78 : ρ (.tmp 78) = _ := (hρ 78).trans (hp 5 (by decide))
    have e81 : ρ (.tmp 81) = _ := (hρ 81).trans (hp 8 (by decide))
    clear hR hN hp hρ
    go_light
    go_simp
    exact ⟨rfl, rfl⟩
   ·rfl
   apply Chain.pure (LZ.refl _) (by rfl)
   ·intro vals γ w' ρ hR hN hp hρ hc hf hg
    refine ⟨rfl, ?_⟩
    have e82 : ρ (.tmp 82) = _ := (hρ 82).trans (hp 9 (by decide))
    clear hR hN hp hρ
    go_light
    go_simp
    exact ⟨rfl, rfl⟩
   ·rfl
   apply Chain.pure (LZ.refl _) (by rfl)
   ·intro vals γ w' ρ hR hN hp hρ hc hf hg
    refine ⟨by show (boolOf (vals 10) == some true) = true; rw [show vals 10 = .bool true from hp 10 (by decide)]; rfl, ?_⟩
    have e5 := hρ 5
    conv at e5 => rhs; whnf
    clear hR hN hp hρ
    go_light
    go_simp
    exact ⟨rfl, rfl⟩
   ·rfl
   apply Chain.pure (LZ.refl _) (by rfl)
   ·intro vals γ w' ρ hR hN hp hρ hc hf hg
    refine ⟨by show (boolOf (vals 10) == some true) = true; rw [show vals 10 = .bool true from hp 10 (by decide)]; rfl, ?_⟩
    have e84 : ρ (.tmp 84) = _ := (hρ 84).trans (hp 11 (by decide))
    have hxx := hR.ext0 (fun _ _ _ h => h.elim)
    have k0 := hxx.cell PD.out
    clear hxx
    clear hR hN hp hρ
    go_light
    go_simp
    exact ⟨rfl, rfl⟩
   ·rfl
   apply Chain.pure (LZ.refl _) (by rfl)
   ·intro vals γ w' ρ hR hN hp hρ hc hf hg
    refine ⟨by show (boolOf (vals 10) == some true) = true; rw [show vals 10 = .bool true from hp 10 (by decide)]; rfl, ?_⟩
    have e85 : ρ (.tmp 85) = _ := (hρ 85).trans (hp 12 (by decide))
    clear hR hN hp hρ
    go_light
    go_simp
    exact ⟨rfl, rfl⟩
   ·rfl
   apply Chain.pure (LZ.refl _) (by rfl)
   ·intro vals γ w' ρ hR hN hp hρ hc hf hg
    refine ⟨by show (boolOf (vals 10) == some true) = true; rw [show vals 10 = .bool true from hp 10 (by decide)]; rfl, ?_⟩
    have e4 := hρ 4
    conv at e4 => rhs; whnf
    clear hR hN hp hρ
    go_light
    go_simp
    exact ⟨rfl, rfl⟩
   ·rfl
   refine Chain.step (FP fun v γ w' => ∃ (A9 : Option Addr) (c9 : Nat), v = .slice A9 nu c9) (by rfl) (FP.stab ?_) ?_ ?_
   ·intro v γ w1 γ' w2 r h
    exact h
   ·intro vals γ w' ρ hR hN hp hρ hc hf hg
    refine ⟨by show (boolOf (vals 10) == some true) = true; rw [show vals 10 = .bool true from hp 10 (by decide)]; rfl, ?_⟩
    have e87 : ρ (.tmp 87) = _ := (hρ 87).trans (hp 14 (by decide))
    have HR := Hd hR
    have hxx := hR.ext0 (fun _ _ _ h => h.elim)
    have HXW := Hd hxx
    clear hxx
    clear hR hN hp hρ
    go_light
    go_simp
    refine (HUC.out w' HXW.out).mono ?_
    rintro e1 w3 ⟨A9, c9, he, _, hx⟩
    exact ⟨_, he, γ, LZ.of_ext _ γ hx, fun _ _ _ h => h, A9, c9, by rw [HNU.out]; rfl⟩
   apply Chain.pure (LZ.refl _) (by rfl)
   ·intro vals γ w' ρ hR hN hp hρ hc hf hg
    refine ⟨by show (boolOf (vals 10) == some true) = true; rw [show vals 10 = .bool true from hp 10 (by decide)]; rfl, ?_⟩
    obtain ⟨A9, c9, hv⟩ := hp 15 (by decide)
    have e88 := (hρ 88).trans hv
    clear hR hN hp hρ
    go_light
    go_simp
    exact ⟨rfl, rfl⟩
   ·rfl
   apply Chain.pure (LZ.refl _) (by rfl)
   ·intro vals γ w' ρ hR hN hp hρ hc hf hg
    refine ⟨by show (boolOf (vals 10) == some true) = true; rw [show vals 10 = .bool true from hp 10 (by decide)]; rfl, ?_⟩
    have e89 : ρ (.tmp 89) = _ := (hρ 89).trans (hp 16 (by decide))
    have z2 := HZ2.out
    clear hR hN hp hρ
    go_light
    go_simp
    exact ⟨rfl, rfl⟩
   ·rfl
   apply Chain.pure (LZ.refl _) (by rfl)
   ·intro vals γ w' ρ hR hN hp hρ hc hf hg
    refine ⟨by show (boolOf (vals 10) == some true) = true; rw [show vals 10 = .bool true from hp 10 (by decide)]; rfl, ?_⟩
    have e86 : ρ (.tmp 86) = _ := (hρ 86).trans (hp 13 (by decide))
    have e90 : ρ (.tmp 90) = _ := (hρ 90).trans (hp 17 (by decide))
    clear hR hN hp hρ
    go_light
    go_simp
    exact ⟨rfl, rfl⟩
   ·rfl
   apply Chain.pure (LZ.refl _) (by rfl)
   ·intro vals γ w' ρ hR hN hp hρ hc hf hg
    refine ⟨rfl, ?_⟩
    have e83 : ρ (.tmp 83) = _ := (hρ 83).trans (hp 10 (by decide))
    have e91 : ρ (.tmp 91) = _ := (hρ 91).trans (hp 18 (by decide))
    clear hR hN hp hρ
    go_light
    go_simp
    exact ⟨rfl, rfl⟩
   ·rfl
   apply Chain.pure (LZ.refl _) (by rfl)
   ·intro vals γ w' ρ hR hN hp hρ hc hf hg
    refine ⟨rfl, ?_⟩
    have e92 : ρ (.tmp 92) = _ := (hρ 92).trans (hp 19 (by decide))
    clear hR hN hp hρ
    go_light
    go_simp
    exact ⟨rfl, rfl⟩
   ·rfl
   intro vals γ w9 hR hG
   have v0 : vals 0 = _ := hG 0 (by decide)
   have v1 : vals 1 = _ := hG 1 (by decide)
   have v2 : vals 2 = _ := hG 2 (by decide)
   have v3 : vals 3 = _ := hG 3 (by decide)
   have v4 : vals 4 = _ := hG 4 (by decide)
   have v5 : vals 5 = _ := hG 5 (by decide)
   have v6 : vals 6 = _ := hG 6 (by decide)
   have v7 : vals 7 = _ := hG 7 (by decide)
   have v8 : vals 8 = _ := hG 8 (by decide)
   have v9 : vals 9 = _ := hG 9 (by decide)
   have v10 : vals 10 = _ := hG 10 (by decide)
   have v11 : vals 11 = _ := hG 11 (by decide)
   have v12 : vals 12 = _ := hG 12 (by decide)
   have v13 : vals 13 = _ := hG 13 (by decide)
   have v14 : vals 14 = _ := hG 14 (by decide)
   obtain ⟨A15, c15, v15⟩ := hG 15 (by decide)
   have v16 : vals 16 = _ := hG 16 (by decide)
   have v17 : vals 17 = _ := hG 17 (by decide)
   have v18 : vals 18 = _ := hG 18 (by decide)
   have v19 : vals 19 = _ := hG 19 (by decide)
   have v20 : vals 20 = _ := hG 20 (by decide)
   simp only [lexFrame, Act.put, List.setIfInBounds_toArray, List.set_cons_succ, List.set_cons_zero, Nat.zero_add, Nat.reduceAdd, v0, v1, v2, v3, v4, v5, v6, v7, v8, v9, v10, v11, v12, v13, v14, v15, v16, v17, v18, v19, v20]
   clear v0 v1 v2 v3 v4 v5 v6 v7 v8 v9 v10 v11 v12 v13 v14 v15 v16 v17 v18 v19 v20
   have HX13 := Hd (show Ext w10 w9 from hR.ext0 (fun _ _ _ h => h.elim))
   clear hR hG
   go_wp2
   go_ret
   exact ⟨rfl, HXE.out.trans HX13.out⟩
  ·have HNZ := Hd (show nu ≠ 0 by rw [enu]; intro e; exact h0 (HUS.out.1 (List.eq_nil_of_length_eq_zero e)))
   have HEM := Hd (show errM L ((dp : Int) - 1) = 16 by rw [HEE.out, if_neg (by omega), if_pos (by have := HDP.out; omega)])
   have HZ1 := Hd (show ((dp : Int) == 0) = false by rw [beq_eq_false_iff_ne]; omega)
   have HZ2 := Hd (show ((nu : Int) == 0) = false by rw [beq_eq_false_iff_ne]; have := HNZ.out; omega)
   rw [HEM.out]
   clear enu
   go_upto_region 13 with fail
   refine wp_region_chain (by kernel_rfl) (fun i => [i]) (by kernel_rfl) (LZ (fun _ _ => False)) (LZ.refl _) (LZ.trans _) (LK []) gz0 (LK.zero _) ?_
   apply Chain.pure (LZ.refl _) (by rfl)
   ·intro vals γ w' ρ hR hN hp hρ hc hf hg
    refine ⟨rfl, ?_⟩
    have e3 := hρ 3
    conv at e3 => rhs; whnf
    clear hR hN hp hρ
    go_light
    go_simp
    exact ⟨rfl, rfl⟩
   ·rfl
   apply Chain.pure (LZ.refl _) (by rfl)
   ·intro vals γ w' ρ hR hN hp hρ hc hf hg
    refine ⟨rfl, ?_⟩
    have e73 : ρ (.tmp 73) = _ := (hρ 73).trans (hp 0 (by decide))
    clear hR hN hp hρ
    go_light
    go_simp
    exact ⟨rfl, rfl⟩
   ·rfl
   apply Chain.pure (LZ.refl _) (by rfl)
   ·intro vals γ w' ρ hR hN hp hρ hc hf hg
    refine ⟨by show (boolOf (vals 1) == some true) = true; rw [show vals 1 = .bool true from hp 1 (by decide)]; rfl, ?_⟩
    have e8 := hρ 8
    conv at e8 => rhs; whnf
    clear hR hN hp hρ
    go_light
    go_simp
    exact ⟨rfl, rfl⟩
   ·rfl
   apply Chain.pure (LZ.refl _) (by rfl)
   ·intro vals γ w' ρ hR hN hp hρ hc hf hg
    refine ⟨by show (boolOf (vals 1) == some true) = true; rw [show vals 1 = .bool true from hp 1 (by decide)]; rfl, ?_⟩
    have e75 : ρ (.tmp 75) = _ := (hρ 75).trans (hp 2 (by decide))
    clear hR hN hp hρ
    go_light
    go_simp
    exact ⟨rfl, rfl⟩
   ·rfl
   apply Chain.pure (LZ.refl _) (by rfl)
   ·intro vals γ w' ρ hR hN hp hρ hc hf hg
    refine ⟨rfl, ?_⟩
    have e74 : ρ (.tmp 74) = _ := (hρ 74).trans (hp 1 (by decide))
    have e76 : ρ (.tmp 76) = _ := (hρ 76).trans (hp 3 (by decide))
    clear hR hN hp hρ
    go_light
    go_simp
    exact ⟨rfl, rfl⟩
   ·rfl
   apply Chain.pure (LZ.refl _) (by rfl)
   ·intro vals γ w' ρ hR hN hp hρ hc hf hg
    refine ⟨rfl, ?_⟩
    have e77 : ρ (.tmp 77) = _ := (hρ 77).trans (hp 4 (by decide))
    clear hR hN hp hρ
    go_light
    go_simp
    exact ⟨rfl, rfl⟩
   ·rfl
   apply Chain.pure (LZ.refl _) (by rfl)
   ·intro vals γ w' ρ hR hN hp hρ hc hf hg
    refine ⟨by show (boolOf (vals 5) == some true) = true; rw [show vals 5 = .bool true from hp 5 (by decide)]; rfl, ?_⟩
    have e10 := hρ 10
    conv at e10 => rhs; whnf
    clear hR hN hp hρ
    go_light
    go_simp
    exact ⟨rfl, rfl⟩
   ·rfl
   apply Chain.pure (LZ.refl _) (by rfl)
   ·intro vals γ w' ρ hR hN hp hρ hc hf hg
    refine ⟨by show (boolOf (vals 5) == some true) = true; rw [show vals 5 = .bool true from hp 5 (by decide)]; rfl, ?_⟩
    have e11 := hρ 11
    conv at e11 => rhs; whnf
    clear hR hN hp hρ
    go_light
    go_simp
    exact ⟨rfl, rfl⟩
   ·rfl
   apply Chain.pure (LZ.refl _) (by rfl)
   ·intro vals γ w' ρ hR hN hp hρ hc hf hg
    refine ⟨by show (boolOf (vals 5) == some true) = true; rw [show vals 5 = .bool true from hp 5 (by decide)]; rfl, ?_⟩
    have e79 : ρ (.tmp 79) = _ := (hρ 79).trans (hp 6 (by decide))
    have e80 : ρ (.tmp 80) = _ := (hρ 80).trans (hp 7 (by decide))
    clear hR hN hp hρ
    go_light
    go_simp
    exact ⟨rfl, rfl⟩
   ·rfl
   apply Chain.pure (LZ.refl _) (by rfl)
   ·intro vals γ w' ρ hR hN hp hρ hc hf hg
    refine ⟨rfl, ?_⟩
    have e78 : ρ (.tmp 78) = _ := (hρ 78).trans (hp 5 (by decide))
    have e81 : ρ (.tmp 81) = _ := (hρ 81).trans (hp 8 (by decide))
    clear hR hN hp hρ
    go_light
    go_simp
    exact ⟨rfl, rfl⟩
   ·rfl
   apply Chain.pure (LZ.refl _) (by rfl)
   ·intro vals γ w' ρ hR hN hp hρ hc hf hg
    refine ⟨rfl, ?_⟩
    have e82 : ρ (.tmp 82) = _ := (hρ 82).trans (hp 9 (by decide))
    clear hR hN hp hρ
    go_light
    go_simp
    exact ⟨rfl, rfl⟩
   ·rfl
   apply Chain.pure (LZ.refl _) (by rfl)
   ·intro vals γ w' ρ hR hN hp hρ hc hf hg
    refine ⟨by show (boolOf (vals 10) == some true) = true; rw [show vals 10 = .bool true from hp 10 (by decide)]; rfl, ?_⟩
    have e5 := hρ 5
    conv at e5 => rhs; whnf
    clear hR hN hp hρ
    go_light
    go_simp
    exact ⟨rfl, rfl⟩
   ·rfl
   apply Chain.pure (LZ.refl _) (by rfl)
   ·intro vals γ w' ρ hR hN hp hρ hc hf hg
    refine ⟨by show (boolOf (vals 10) == some true) = true; rw [show vals 10 = .bool true from hp 10 (by decide)]; rfl, ?_⟩
    have e84 : ρ (.tmp 84) = _ := (hρ 84).trans (hp 11 (by decide))
    have hxx := hR.ext0 (fun _ _ _ h => h.elim)
    have k0 := hxx.cell PD.out
    clear hxx
    clear hR hN hp hρ
    go_light
    go_simp
    exact ⟨rfl, rfl⟩
   ·rfl
   apply Chain.pure (LZ.refl _) (by rfl)
   ·intro vals γ w' ρ hR hN hp hρ hc hf hg
    refine ⟨by show (boolOf (vals 10) == some true) = true; rw [show vals 10 = .bool true from hp 10 (by decide)]; rfl, ?_⟩
    have e85 : ρ (.tmp 85) = _ := (hρ 85).trans (hp 12 (by decide))
    have z1 := HZ1.out
    clear hR hN hp hρ
    go_light
    go_simp
    exact ⟨rfl, rfl⟩
   ·rfl
   apply Chain.pure (LZ.refl _) (by rfl)
   ·intro vals γ w' ρ hR hN hp hρ hc hf hg
    refine ⟨by show (boolOf (vals 10) == some true) = true; rw [show vals 10 = .bool true from hp 10 (by decide)]; rfl, ?_⟩
    have e4 := hρ 4
    conv at e4 => rhs; whnf
    clear hR hN hp hρ
    go_light
    go_simp
    exact ⟨rfl, rfl⟩
   ·rfl
   refine Chain.step (FP fun v γ w' => ∃ (A9 : Option Addr) (c9 : Nat), v = .slice A9 nu c9) (by rfl) (FP.stab ?_) ?_ ?_
   ·intro v γ w1 γ' w2 r h
    exact h
   ·intro vals γ w' ρ hR hN hp hρ hc hf hg
    refine ⟨by show (boolOf (vals 10) == some true) = true; rw [show vals 10 = .bool true from hp 10 (by decide)]; rfl, ?_⟩
    have e87 : ρ (.tmp 87) = _ := (hρ 87).trans (hp 14 (by decide))
    have HR := Hd hR
    have hxx := hR.ext0 (fun _ _ _ h => h.elim)
    have HXW := Hd hxx
    clear hxx
    clear hR hN hp hρ
    go_light
    go_simp
    refine (HUC.out w' HXW.out).mono ?_
    rintro e1 w3 ⟨A9, c9, he, _, hx⟩
    exact ⟨_, he, γ, LZ.of_ext _ γ hx, fun _ _ _ h => h, A9, c9, by rw [HNU.out]; rfl⟩
   apply Chain.pure (LZ.refl _) (by rfl)
   ·intro vals γ w' ρ hR hN hp hρ hc hf hg
    refine ⟨by show (boolOf (vals 10) == some true) = true; rw [show vals 10 = .bool true from hp 10 (by decide)]; rfl, ?_⟩
    obtain ⟨A9, c9, hv⟩ := hp 15 (by decide)
    have e88 := (hρ 88).trans hv
    clear hR hN hp hρ
    go_light
    go_simp
    exact ⟨rfl, rfl⟩
   ·rfl
   apply Chain.pure (LZ.refl _) (by rfl)
   ·intro vals γ w' ρ hR hN hp hρ hc hf hg
    refine ⟨by show (boolOf (vals 10) == some true) = true; rw [show vals 10 = .bool true from hp 10 (by decide)]; rfl, ?_⟩
    have e89 : ρ (.tmp 89) = _ := (hρ 89).trans (hp 16 (by decide))
    have z2 := HZ2.out
    clear hR hN hp hρ
    go_light
    go_simp
    exact ⟨rfl, rfl⟩
   ·rfl
   apply Chain.pure (LZ.refl _) (by rfl)
   ·intro vals γ w' ρ hR hN hp hρ hc hf hg
    refine ⟨by show (boolOf (vals 10) == some true) = true; rw [show vals 10 = .bool true from hp 10 (by decide)]; rfl, ?_⟩
    have e86 : ρ (.tmp 86) = _ := (hρ 86).trans (hp 13 (by decide))
    have e90 : ρ (.tmp 90) = _ := (hρ 90).trans (hp 17 (by decide))
    clear hR hN hp hρ
    go_light
    go_simp
    exact ⟨rfl, rfl⟩
   ·rfl
   apply Chain.pure (LZ.refl _) (by rfl)
   ·intro vals γ w' ρ hR hN hp hρ hc hf hg
    refine ⟨rfl, ?_⟩
    have e83 : ρ (.tmp 83) = _ := (hρ 83).trans (hp 10 (by decide))
    have e91 : ρ (.tmp 91) = _ := (hρ 91).trans (hp 18 (by decide))
    clear hR hN hp hρ
    go_light
    go_simp
    exact ⟨rfl, rfl⟩
   ·rfl
   apply Chain.pure (LZ.refl _) (by rfl)
   ·intro vals γ w' ρ hR hN hp hρ hc hf hg
    refine ⟨rfl, ?_⟩
    have e92 : ρ (.tmp 92) = _ := (hρ 92).trans (hp 19 (by decide))
    clear hR hN hp hρ
    go_light
    go_simp
    exact ⟨rfl, rfl⟩
   ·rfl
   intro vals γ w9 hR hG
   have v0 : vals 0 = _ := hG 0 (by decide)
   have v1 : vals 1 = _ := hG 1 (by decide)
   have v2 : vals 2 = _ := hG 2 (by decide)
   have v3 : vals 3 = _ := hG 3 (by decide)
   have v4 : vals 4 = _ := hG 4 (by decide)
   have v5 : vals 5 = _ := hG 5 (by decide)
   have v6 : vals 6 = _ := hG 6 (by decide)
   have v7 : vals 7 = _ := hG 7 (by decide)
   have v8 : vals 8 = _ := hG 8 (by decide)
   have v9 : vals 9 = _ := hG 9 (by decide)
   have v10 : vals 10 = _ := hG 10 (by decide)
   have v11 : vals 11 = _ := hG 11 (by decide)
   have v12 : vals 12 = _ := hG 12 (by decide)
   have v13 : vals 13 = _ := hG 13 (by decide)
   have v14 : vals 14 = _ := hG 14 (by decide)
   obtain ⟨A15, c15, v15⟩ := hG 15 (by decide)
   have v16 : vals 16 = _ := hG 16 (by decide)
   have v17 : vals 17 = _ := hG 17 (by decide)
   have v18 : vals 18 = _ := hG 18 (by decide)
   have v19 : vals 19 = _ := hG 19 (by decide)
   have v20 : vals 20 = _ := hG 20 (by decide)
   simp only [lexFrame, Act.put, List.setIfInBounds_toArray, List.set_cons_succ, List.set_cons_zero, Nat.zero_add, Nat.reduceAdd, v0, v1, v2, v3, v4, v5, v6, v7, v8, v9, v10, v11, v12, v13, v14, v15, v16, v17, v18, v19, v20]
   clear v0 v1 v2 v3 v4 v5 v6 v7 v8 v9 v10 v11 v12 v13 v14 v15 v16 v17 v18 v19 v20
   have HX13 := Hd (show Ext w10 w9 from hR.ext0 (fun _ _ _ h => h.elim))
   clear hR hG
   go_wp2
   go_ret
   exact ⟨rfl, HXE.out.trans HX13.out⟩
end Go.Proofs.YtomdpipekmcojaaGreatDoor
