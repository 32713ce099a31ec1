/- The program's decimal.join. Conditions: the variable tens holds the powers of ten; the parts are bounded. -/
import Derived.Test.YtcmmkeiiapbgcaaGreatDoorDec
namespace Go.Proofs.YtcmmkeiiapbgcaaGreatDoor
open Go Go.RowKit

set_option maxRecDepth 100000 in
set_option maxHeartbeats 2000000 in
theorem decimal_join_pos (a b : Int) (w : World) (ht : Tens w) (ha1 : -4000000000000000 ≤ a) (ha2 : a ≤ 4000000000000000) (hb1 : -4000000 ≤ b) (hb2 : b ≤ 4000000) (hb0 : 0 ≤ b) :
    Calls Tryz.prog 99 #[.int .i64 a, .int .i64 b] w (RetDB w (joinS (a * 1000000 + b))) := by
  have hp := ht.pos
  have HT := Lib.hid ht
  clear ht
  have HU := Lib.hid (show 1000000 * (b / 1000000) + b % 1000000 = b by omega)
  have q1 : -5 ≤ b / 1000000 := by omega
  have q2 : b / 1000000 ≤ 5 := by omega
  have d2 : 0 ≤ b % 1000000 := by omega
  have d3 : b % 1000000 < 1000000 := by omega
  go_enter Tryz.func99, Tryz.ntmps99
  go_wp2_with fail
  · have hWR : (a + b / 1000000) * 1000000 + (b % 1000000) = a * 1000000 + b := by have := HU.out; omega
    have hR1 : -1000000 < b % 1000000 := by omega
    have hR2 : b % 1000000 < 1000000 := by omega
    have hW1 : -4000000000000010 ≤ a + b / 1000000 := by omega
    have hW2 : a + b / 1000000 ≤ 4000000000000010 := by omega
    have hsg : (0 < a + b / 1000000 → 0 ≤ b % 1000000) ∧ (a + b / 1000000 < 0 → b % 1000000 ≤ 0) := by omega
    have HWR := Lib.hid hWR
    have HSG := Lib.hid hsg
    clear hWR hsg
    generalize hWe : a + b / 1000000 = W at *
    generalize hRe : b % 1000000 = R at *
    clear hWe hRe
    go_loop [1, 6] (fun v i => ∃ (p : Int) (m : Nat), m ≤ 6 ∧ v = .int .i64 p ∧ i = .int .i64 m ∧ p * pw (6 - (m : Int)) = R) (fun _ i => (intOf i).toNat)
    case atStart => exact ⟨R, 6, by omega, rfl, rfl, by simp [pw]⟩
    case round =>
      obtain ⟨p, m, hm, rfl, rfl, hpR⟩ := hrel
      have HPR := Lib.hid hpR
      clear hpR
      have hpb := join_bd p R m hm HPR.out hR1 hR2
      obtain ⟨hpb1, hpb2⟩ := hpb
      obtain ⟨x1, x2, x3, x4, x5⟩ := tdm p 10 (by decide)
      have HX1 := Lib.hid x1
      clear x1
      by_cases hm0 : 0 < m
      · have hm0' : (0 : Int) < (m : Int) := by omega
        by_cases hz : p.tmod 10 = 0
        · have hz' : (p.tmod 10 == 0) = true := by simp [hz]
          have HZ := Lib.hid hz
          clear hz
          go_wp2
          go_round
          case rel => exact ⟨p.tdiv 10, m - 1, by omega, rfl, by congr 1; omega, join_step p R m hm hm0 HPR.out HX1.out HZ.out⟩
          case measure => simp [intOf]; omega
        · have hz' : (p.tmod 10 == 0) = false := by simp [hz]
          have HN := Lib.hid (join_norm W R p m a b hm HPR.out HWR.out (Or.inr hz))
          clear hz
          have hcell := tens_at HT.out m hm
          have hpw := pw_bd m hm
          obtain ⟨hpw1, hpw2⟩ := hpw
          have hdv := quo_bd m hm
          obtain ⟨hdv1, hdv2⟩ := hdv
          by_cases hlo : W < -(1000000000000000 / pw (m : Int))
          · have HF := Lib.hid (join_no W R p m a b hm HPR.out hR1 hR2 HSG.out HN.out (Or.inl hlo))
            try (exfalso; omega)
            all_goals go_wp2
            all_goals
              rw [HF.out]
              refine bodyPost_ret (v := .tuple #[.agg #[.int .i64 0, .int .i64 0], .bool false]) (by simp [results, Tryz.results99, go_sem]) rfl ⟨rfl, ?_⟩
              exact (Ext.refl w).alloc _
          by_cases hhi : 1000000000000000 / pw (m : Int) < W
          · have HF := Lib.hid (join_no W R p m a b hm HPR.out hR1 hR2 HSG.out HN.out (Or.inr hhi))
            try (exfalso; omega)
            all_goals go_wp2
            all_goals
              rw [HF.out]
              refine bodyPost_ret (v := .tuple #[.agg #[.int .i64 0, .int .i64 0], .bool false]) (by simp [results, Tryz.results99, go_sem]) rfl ⟨rfl, ?_⟩
              exact (Ext.refl w).alloc _
          have hprod := prod_bd W m hm (by omega) (by omega)
          obtain ⟨hprod1, hprod2⟩ := hprod
          cases hu : unitsB (W * pw (m : Int) + p)
          · have HF := Lib.hid (show joinS (a * 1000000 + b) = ((0, 0), false) by unfold joinS; rw [HN.out, hu]; rfl)
            have HUU := Lib.hid hu
            clear hu
            go_wp2_with (go_at_call 125; refine (decimal_within _ _).mono ?_; rintro e w' ⟨rfl, rfl⟩; rw [HUU.out])
            all_goals
              rw [HF.out]
              refine bodyPost_ret (v := .tuple #[.agg #[.int .i64 0, .int .i64 0], .bool false]) (by simp [results, Tryz.results99, go_sem]) rfl ⟨rfl, ?_⟩
              exact (Ext.refl w).alloc _
          · have HF := Lib.hid (show joinS (a * 1000000 + b) = ((W * pw (m : Int) + p, (m : Int)), true) by unfold joinS; rw [HN.out, hu]; rfl)
            have HUU := Lib.hid hu
            clear hu
            go_wp2_with (go_at_call 125; refine (decimal_within _ _).mono ?_; rintro e w' ⟨rfl, rfl⟩; rw [HUU.out])
            all_goals
              rw [HF.out]
              refine bodyPost_ret (v := .tuple #[.agg #[.int .i64 (W * pw (m : Int) + p), .int .i64 (m : Int)], .bool true]) (by simp [results, Tryz.results99, go_sem]) rfl ⟨rfl, ?_⟩
              exact (Ext.refl w).alloc _
      · have hm0' : ¬ (0 : Int) < (m : Int) := by omega
        have HN := Lib.hid (join_norm W R p m a b hm HPR.out HWR.out (Or.inl (by omega)))
        obtain rfl : m = 0 := by omega
        have HN' := Lib.hid (show normU (a * 1000000 + b) = (W + p, 0) by have := HN.out; simpa [pw] using this)
        have hcell := HT.out.1
        by_cases hlo : W < -1000000000000000
        · have HF := Lib.hid (join_no W R p 0 a b hm HPR.out hR1 hR2 HSG.out HN.out (Or.inl (by simpa [pw] using hlo)))
          try (exfalso; omega)
          all_goals go_wp2
          all_goals
            rw [HF.out]
            refine bodyPost_ret (v := .tuple #[.agg #[.int .i64 0, .int .i64 0], .bool false]) (by simp [results, Tryz.results99, go_sem]) rfl ⟨rfl, ?_⟩
            exact (Ext.refl w).alloc _
        by_cases hhi : 1000000000000000 < W
        · have HF := Lib.hid (join_no W R p 0 a b hm HPR.out hR1 hR2 HSG.out HN.out (Or.inr (by simpa [pw] using hhi)))
          try (exfalso; omega)
          all_goals go_wp2
          all_goals
            rw [HF.out]
            refine bodyPost_ret (v := .tuple #[.agg #[.int .i64 0, .int .i64 0], .bool false]) (by simp [results, Tryz.results99, go_sem]) rfl ⟨rfl, ?_⟩
            exact (Ext.refl w).alloc _
        cases hu : unitsB (W + p)
        · have HF := Lib.hid (show joinS (a * 1000000 + b) = ((0, 0), false) by unfold joinS; rw [HN'.out, hu]; rfl)
          have HUU := Lib.hid hu
          clear hu
          go_wp2_with (go_at_call 125; refine (decimal_within _ _).mono ?_; rintro e w' ⟨rfl, rfl⟩; rw [HUU.out])
          all_goals
            rw [HF.out]
            refine bodyPost_ret (v := .tuple #[.agg #[.int .i64 0, .int .i64 0], .bool false]) (by simp [results, Tryz.results99, go_sem]) rfl ⟨rfl, ?_⟩
            exact (Ext.refl w).alloc _
        · have HF := Lib.hid (show joinS (a * 1000000 + b) = ((W + p, 0), true) by unfold joinS; rw [HN'.out, hu]; rfl)
          have HUU := Lib.hid hu
          clear hu
          go_wp2_with (go_at_call 125; refine (decimal_within _ _).mono ?_; rintro e w' ⟨rfl, rfl⟩; rw [HUU.out])
          all_goals
            rw [HF.out]
            refine bodyPost_ret (v := .tuple #[.agg #[.int .i64 (W + p), .int .i64 0], .bool true]) (by simp [results, Tryz.results99, go_sem]) rfl ⟨rfl, ?_⟩
            exact (Ext.refl w).alloc _
  · have hWR : (a + b / 1000000 + 1) * 1000000 + (b % 1000000 - 1000000) = a * 1000000 + b := by have := HU.out; omega
    have hR1 : -1000000 < b % 1000000 - 1000000 := by omega
    have hR2 : b % 1000000 - 1000000 < 1000000 := by omega
    have hW1 : -4000000000000010 ≤ a + b / 1000000 + 1 := by omega
    have hW2 : a + b / 1000000 + 1 ≤ 4000000000000010 := by omega
    have hsg : (0 < a + b / 1000000 + 1 → 0 ≤ b % 1000000 - 1000000) ∧ (a + b / 1000000 + 1 < 0 → b % 1000000 - 1000000 ≤ 0) := by omega
    have HWR := Lib.hid hWR
    have HSG := Lib.hid hsg
    clear hWR hsg
    generalize hWe : a + b / 1000000 + 1 = W at *
    generalize hRe : b % 1000000 - 1000000 = R at *
    clear hWe hRe
    go_loop [1, 6] (fun v i => ∃ (p : Int) (m : Nat), m ≤ 6 ∧ v = .int .i64 p ∧ i = .int .i64 m ∧ p * pw (6 - (m : Int)) = R) (fun _ i => (intOf i).toNat)
    case atStart => exact ⟨R, 6, by omega, rfl, rfl, by simp [pw]⟩
    case round =>
      obtain ⟨p, m, hm, rfl, rfl, hpR⟩ := hrel
      have HPR := Lib.hid hpR
      clear hpR
      have hpb := join_bd p R m hm HPR.out hR1 hR2
      obtain ⟨hpb1, hpb2⟩ := hpb
      obtain ⟨x1, x2, x3, x4, x5⟩ := tdm p 10 (by decide)
      have HX1 := Lib.hid x1
      clear x1
      by_cases hm0 : 0 < m
      · have hm0' : (0 : Int) < (m : Int) := by omega
        by_cases hz : p.tmod 10 = 0
        · have hz' : (p.tmod 10 == 0) = true := by simp [hz]
          have HZ := Lib.hid hz
          clear hz
          go_wp2
          go_round
          case rel => exact ⟨p.tdiv 10, m - 1, by omega, rfl, by congr 1; omega, join_step p R m hm hm0 HPR.out HX1.out HZ.out⟩
          case measure => simp [intOf]; omega
        · have hz' : (p.tmod 10 == 0) = false := by simp [hz]
          have HN := Lib.hid (join_norm W R p m a b hm HPR.out HWR.out (Or.inr hz))
          clear hz
          have hcell := tens_at HT.out m hm
          have hpw := pw_bd m hm
          obtain ⟨hpw1, hpw2⟩ := hpw
          have hdv := quo_bd m hm
          obtain ⟨hdv1, hdv2⟩ := hdv
          by_cases hlo : W < -(1000000000000000 / pw (m : Int))
          · have HF := Lib.hid (join_no W R p m a b hm HPR.out hR1 hR2 HSG.out HN.out (Or.inl hlo))
            try (exfalso; omega)
            all_goals go_wp2
            all_goals
              rw [HF.out]
              refine bodyPost_ret (v := .tuple #[.agg #[.int .i64 0, .int .i64 0], .bool false]) (by simp [results, Tryz.results99, go_sem]) rfl ⟨rfl, ?_⟩
              exact (Ext.refl w).alloc _
          by_cases hhi : 1000000000000000 / pw (m : Int) < W
          · have HF := Lib.hid (join_no W R p m a b hm HPR.out hR1 hR2 HSG.out HN.out (Or.inr hhi))
            try (exfalso; omega)
            all_goals go_wp2
            all_goals
              rw [HF.out]
              refine bodyPost_ret (v := .tuple #[.agg #[.int .i64 0, .int .i64 0], .bool false]) (by simp [results, Tryz.results99, go_sem]) rfl ⟨rfl, ?_⟩
              exact (Ext.refl w).alloc _
          have hprod := prod_bd W m hm (by omega) (by omega)
          obtain ⟨hprod1, hprod2⟩ := hprod
          cases hu : unitsB (W * pw (m : Int) + p)
          · have HF := Lib.hid (show joinS (a * 1000000 + b) = ((0, 0), false) by unfold joinS; rw [HN.out, hu]; rfl)
            have HUU := Lib.hid hu
            clear hu
            go_wp2_with (go_at_call 125; refine (decimal_within _ _).mono ?_; rintro e w' ⟨rfl, rfl⟩; rw [HUU.out])
            all_goals
              rw [HF.out]
              refine bodyPost_ret (v := .tuple #[.agg #[.int .i64 0, .int .i64 0], .bool false]) (by simp [results, Tryz.results99, go_sem]) rfl ⟨rfl, ?_⟩
              exact (Ext.refl w).alloc _
          · have HF := Lib.hid (show joinS (a * 1000000 + b) = ((W * pw (m : Int) + p, (m : Int)), true) by unfold joinS; rw [HN.out, hu]; rfl)
            have HUU := Lib.hid hu
            clear hu
            go_wp2_with (go_at_call 125; refine (decimal_within _ _).mono ?_; rintro e w' ⟨rfl, rfl⟩; rw [HUU.out])
            all_goals
              rw [HF.out]
              refine bodyPost_ret (v := .tuple #[.agg #[.int .i64 (W * pw (m : Int) + p), .int .i64 (m : Int)], .bool true]) (by simp [results, Tryz.results99, go_sem]) rfl ⟨rfl, ?_⟩
              exact (Ext.refl w).alloc _
      · have hm0' : ¬ (0 : Int) < (m : Int) := by omega
        have HN := Lib.hid (join_norm W R p m a b hm HPR.out HWR.out (Or.inl (by omega)))
        obtain rfl : m = 0 := by omega
        have HN' := Lib.hid (show normU (a * 1000000 + b) = (W + p, 0) by have := HN.out; simpa [pw] using this)
        have hcell := HT.out.1
        by_cases hlo : W < -1000000000000000
        · have HF := Lib.hid (join_no W R p 0 a b hm HPR.out hR1 hR2 HSG.out HN.out (Or.inl (by simpa [pw] using hlo)))
          try (exfalso; omega)
          all_goals go_wp2
          all_goals
            rw [HF.out]
            refine bodyPost_ret (v := .tuple #[.agg #[.int .i64 0, .int .i64 0], .bool false]) (by simp [results, Tryz.results99, go_sem]) rfl ⟨rfl, ?_⟩
            exact (Ext.refl w).alloc _
        by_cases hhi : 1000000000000000 < W
        · have HF := Lib.hid (join_no W R p 0 a b hm HPR.out hR1 hR2 HSG.out HN.out (Or.inr (by simpa [pw] using hhi)))
          try (exfalso; omega)
          all_goals go_wp2
          all_goals
            rw [HF.out]
            refine bodyPost_ret (v := .tuple #[.agg #[.int .i64 0, .int .i64 0], .bool false]) (by simp [results, Tryz.results99, go_sem]) rfl ⟨rfl, ?_⟩
            exact (Ext.refl w).alloc _
        cases hu : unitsB (W + p)
        · have HF := Lib.hid (show joinS (a * 1000000 + b) = ((0, 0), false) by unfold joinS; rw [HN'.out, hu]; rfl)
          have HUU := Lib.hid hu
          clear hu
          go_wp2_with (go_at_call 125; refine (decimal_within _ _).mono ?_; rintro e w' ⟨rfl, rfl⟩; rw [HUU.out])
          all_goals
            rw [HF.out]
            refine bodyPost_ret (v := .tuple #[.agg #[.int .i64 0, .int .i64 0], .bool false]) (by simp [results, Tryz.results99, go_sem]) rfl ⟨rfl, ?_⟩
            exact (Ext.refl w).alloc _
        · have HF := Lib.hid (show joinS (a * 1000000 + b) = ((W + p, 0), true) by unfold joinS; rw [HN'.out, hu]; rfl)
          have HUU := Lib.hid hu
          clear hu
          go_wp2_with (go_at_call 125; refine (decimal_within _ _).mono ?_; rintro e w' ⟨rfl, rfl⟩; rw [HUU.out])
          all_goals
            rw [HF.out]
            refine bodyPost_ret (v := .tuple #[.agg #[.int .i64 (W + p), .int .i64 0], .bool true]) (by simp [results, Tryz.results99, go_sem]) rfl ⟨rfl, ?_⟩
            exact (Ext.refl w).alloc _
  · have hWR : (a + b / 1000000) * 1000000 + (b % 1000000) = a * 1000000 + b := by have := HU.out; omega
    have hR1 : -1000000 < b % 1000000 := by omega
    have hR2 : b % 1000000 < 1000000 := by omega
    have hW1 : -4000000000000010 ≤ a + b / 1000000 := by omega
    have hW2 : a + b / 1000000 ≤ 4000000000000010 := by omega
    have hsg : (0 < a + b / 1000000 → 0 ≤ b % 1000000) ∧ (a + b / 1000000 < 0 → b % 1000000 ≤ 0) := by omega
    have HWR := Lib.hid hWR
    have HSG := Lib.hid hsg
    clear hWR hsg
    generalize hWe : a + b / 1000000 = W at *
    generalize hRe : b % 1000000 = R at *
    clear hWe hRe
    go_loop [1, 6] (fun v i => ∃ (p : Int) (m : Nat), m ≤ 6 ∧ v = .int .i64 p ∧ i = .int .i64 m ∧ p * pw (6 - (m : Int)) = R) (fun _ i => (intOf i).toNat)
    case atStart => exact ⟨R, 6, by omega, rfl, rfl, by simp [pw]⟩
    case round =>
      obtain ⟨p, m, hm, rfl, rfl, hpR⟩ := hrel
      have HPR := Lib.hid hpR
      clear hpR
      have hpb := join_bd p R m hm HPR.out hR1 hR2
      obtain ⟨hpb1, hpb2⟩ := hpb
      obtain ⟨x1, x2, x3, x4, x5⟩ := tdm p 10 (by decide)
      have HX1 := Lib.hid x1
      clear x1
      by_cases hm0 : 0 < m
      · have hm0' : (0 : Int) < (m : Int) := by omega
        by_cases hz : p.tmod 10 = 0
        · have hz' : (p.tmod 10 == 0) = true := by simp [hz]
          have HZ := Lib.hid hz
          clear hz
          go_wp2
          go_round
          case rel => exact ⟨p.tdiv 10, m - 1, by omega, rfl, by congr 1; omega, join_step p R m hm hm0 HPR.out HX1.out HZ.out⟩
          case measure => simp [intOf]; omega
        · have hz' : (p.tmod 10 == 0) = false := by simp [hz]
          have HN := Lib.hid (join_norm W R p m a b hm HPR.out HWR.out (Or.inr hz))
          clear hz
          have hcell := tens_at HT.out m hm
          have hpw := pw_bd m hm
          obtain ⟨hpw1, hpw2⟩ := hpw
          have hdv := quo_bd m hm
          obtain ⟨hdv1, hdv2⟩ := hdv
          by_cases hlo : W < -(1000000000000000 / pw (m : Int))
          · have HF := Lib.hid (join_no W R p m a b hm HPR.out hR1 hR2 HSG.out HN.out (Or.inl hlo))
            try (exfalso; omega)
            all_goals go_wp2
            all_goals
              rw [HF.out]
              refine bodyPost_ret (v := .tuple #[.agg #[.int .i64 0, .int .i64 0], .bool false]) (by simp [results, Tryz.results99, go_sem]) rfl ⟨rfl, ?_⟩
              exact (Ext.refl w).alloc _
          by_cases hhi : 1000000000000000 / pw (m : Int) < W
          · have HF := Lib.hid (join_no W R p m a b hm HPR.out hR1 hR2 HSG.out HN.out (Or.inr hhi))
            try (exfalso; omega)
            all_goals go_wp2
            all_goals
              rw [HF.out]
              refine bodyPost_ret (v := .tuple #[.agg #[.int .i64 0, .int .i64 0], .bool false]) (by simp [results, Tryz.results99, go_sem]) rfl ⟨rfl, ?_⟩
              exact (Ext.refl w).alloc _
          have hprod := prod_bd W m hm (by omega) (by omega)
          obtain ⟨hprod1, hprod2⟩ := hprod
          cases hu : unitsB (W * pw (m : Int) + p)
          · have HF := Lib.hid (show joinS (a * 1000000 + b) = ((0, 0), false) by unfold joinS; rw [HN.out, hu]; rfl)
            have HUU := Lib.hid hu
            clear hu
            go_wp2_with (go_at_call 125; refine (decimal_within _ _).mono ?_; rintro e w' ⟨rfl, rfl⟩; rw [HUU.out])
            all_goals
              rw [HF.out]
              refine bodyPost_ret (v := .tuple #[.agg #[.int .i64 0, .int .i64 0], .bool false]) (by simp [results, Tryz.results99, go_sem]) rfl ⟨rfl, ?_⟩
              exact (Ext.refl w).alloc _
          · have HF := Lib.hid (show joinS (a * 1000000 + b) = ((W * pw (m : Int) + p, (m : Int)), true) by unfold joinS; rw [HN.out, hu]; rfl)
            have HUU := Lib.hid hu
            clear hu
            go_wp2_with (go_at_call 125; refine (decimal_within _ _).mono ?_; rintro e w' ⟨rfl, rfl⟩; rw [HUU.out])
            all_goals
              rw [HF.out]
              refine bodyPost_ret (v := .tuple #[.agg #[.int .i64 (W * pw (m : Int) + p), .int .i64 (m : Int)], .bool true]) (by simp [results, Tryz.results99, go_sem]) rfl ⟨rfl, ?_⟩
              exact (Ext.refl w).alloc _
      · have hm0' : ¬ (0 : Int) < (m : Int) := by omega
        have HN := Lib.hid (join_norm W R p m a b hm HPR.out HWR.out (Or.inl (by omega)))
        obtain rfl : m = 0 := by omega
        have HN' := Lib.hid (show normU (a * 1000000 + b) = (W + p, 0) by have := HN.out; simpa [pw] using this)
        have hcell := HT.out.1
        by_cases hlo : W < -1000000000000000
        · have HF := Lib.hid (join_no W R p 0 a b hm HPR.out hR1 hR2 HSG.out HN.out (Or.inl (by simpa [pw] using hlo)))
          try (exfalso; omega)
          all_goals go_wp2
          all_goals
            rw [HF.out]
            refine bodyPost_ret (v := .tuple #[.agg #[.int .i64 0, .int .i64 0], .bool false]) (by simp [results, Tryz.results99, go_sem]) rfl ⟨rfl, ?_⟩
            exact (Ext.refl w).alloc _
        by_cases hhi : 1000000000000000 < W
        · have HF := Lib.hid (join_no W R p 0 a b hm HPR.out hR1 hR2 HSG.out HN.out (Or.inr (by simpa [pw] using hhi)))
          try (exfalso; omega)
          all_goals go_wp2
          all_goals
            rw [HF.out]
            refine bodyPost_ret (v := .tuple #[.agg #[.int .i64 0, .int .i64 0], .bool false]) (by simp [results, Tryz.results99, go_sem]) rfl ⟨rfl, ?_⟩
            exact (Ext.refl w).alloc _
        cases hu : unitsB (W + p)
        · have HF := Lib.hid (show joinS (a * 1000000 + b) = ((0, 0), false) by unfold joinS; rw [HN'.out, hu]; rfl)
          have HUU := Lib.hid hu
          clear hu
          go_wp2_with (go_at_call 125; refine (decimal_within _ _).mono ?_; rintro e w' ⟨rfl, rfl⟩; rw [HUU.out])
          all_goals
            rw [HF.out]
            refine bodyPost_ret (v := .tuple #[.agg #[.int .i64 0, .int .i64 0], .bool false]) (by simp [results, Tryz.results99, go_sem]) rfl ⟨rfl, ?_⟩
            exact (Ext.refl w).alloc _
        · have HF := Lib.hid (show joinS (a * 1000000 + b) = ((W + p, 0), true) by unfold joinS; rw [HN'.out, hu]; rfl)
          have HUU := Lib.hid hu
          clear hu
          go_wp2_with (go_at_call 125; refine (decimal_within _ _).mono ?_; rintro e w' ⟨rfl, rfl⟩; rw [HUU.out])
          all_goals
            rw [HF.out]
            refine bodyPost_ret (v := .tuple #[.agg #[.int .i64 (W + p), .int .i64 0], .bool true]) (by simp [results, Tryz.results99, go_sem]) rfl ⟨rfl, ?_⟩
            exact (Ext.refl w).alloc _
  · have hWR : (a + b / 1000000) * 1000000 + (b % 1000000) = a * 1000000 + b := by have := HU.out; omega
    have hR1 : -1000000 < b % 1000000 := by omega
    have hR2 : b % 1000000 < 1000000 := by omega
    have hW1 : -4000000000000010 ≤ a + b / 1000000 := by omega
    have hW2 : a + b / 1000000 ≤ 4000000000000010 := by omega
    have hsg : (0 < a + b / 1000000 → 0 ≤ b % 1000000) ∧ (a + b / 1000000 < 0 → b % 1000000 ≤ 0) := by omega
    have HWR := Lib.hid hWR
    have HSG := Lib.hid hsg
    clear hWR hsg
    generalize hWe : a + b / 1000000 = W at *
    generalize hRe : b % 1000000 = R at *
    clear hWe hRe
    go_loop [1, 6] (fun v i => ∃ (p : Int) (m : Nat), m ≤ 6 ∧ v = .int .i64 p ∧ i = .int .i64 m ∧ p * pw (6 - (m : Int)) = R) (fun _ i => (intOf i).toNat)
    case atStart => exact ⟨R, 6, by omega, rfl, rfl, by simp [pw]⟩
    case round =>
      obtain ⟨p, m, hm, rfl, rfl, hpR⟩ := hrel
      have HPR := Lib.hid hpR
      clear hpR
      have hpb := join_bd p R m hm HPR.out hR1 hR2
      obtain ⟨hpb1, hpb2⟩ := hpb
      obtain ⟨x1, x2, x3, x4, x5⟩ := tdm p 10 (by decide)
      have HX1 := Lib.hid x1
      clear x1
      by_cases hm0 : 0 < m
      · have hm0' : (0 : Int) < (m : Int) := by omega
        by_cases hz : p.tmod 10 = 0
        · have hz' : (p.tmod 10 == 0) = true := by simp [hz]
          have HZ := Lib.hid hz
          clear hz
          go_wp2
          go_round
          case rel => exact ⟨p.tdiv 10, m - 1, by omega, rfl, by congr 1; omega, join_step p R m hm hm0 HPR.out HX1.out HZ.out⟩
          case measure => simp [intOf]; omega
        · have hz' : (p.tmod 10 == 0) = false := by simp [hz]
          have HN := Lib.hid (join_norm W R p m a b hm HPR.out HWR.out (Or.inr hz))
          clear hz
          have hcell := tens_at HT.out m hm
          have hpw := pw_bd m hm
          obtain ⟨hpw1, hpw2⟩ := hpw
          have hdv := quo_bd m hm
          obtain ⟨hdv1, hdv2⟩ := hdv
          by_cases hlo : W < -(1000000000000000 / pw (m : Int))
          · have HF := Lib.hid (join_no W R p m a b hm HPR.out hR1 hR2 HSG.out HN.out (Or.inl hlo))
            try (exfalso; omega)
            all_goals go_wp2
            all_goals
              rw [HF.out]
              refine bodyPost_ret (v := .tuple #[.agg #[.int .i64 0, .int .i64 0], .bool false]) (by simp [results, Tryz.results99, go_sem]) rfl ⟨rfl, ?_⟩
              exact (Ext.refl w).alloc _
          by_cases hhi : 1000000000000000 / pw (m : Int) < W
          · have HF := Lib.hid (join_no W R p m a b hm HPR.out hR1 hR2 HSG.out HN.out (Or.inr hhi))
            try (exfalso; omega)
            all_goals go_wp2
            all_goals
              rw [HF.out]
              refine bodyPost_ret (v := .tuple #[.agg #[.int .i64 0, .int .i64 0], .bool false]) (by simp [results, Tryz.results99, go_sem]) rfl ⟨rfl, ?_⟩
              exact (Ext.refl w).alloc _
          have hprod := prod_bd W m hm (by omega) (by omega)
          obtain ⟨hprod1, hprod2⟩ := hprod
          cases hu : unitsB (W * pw (m : Int) + p)
          · have HF := Lib.hid (show joinS (a * 1000000 + b) = ((0, 0), false) by unfold joinS; rw [HN.out, hu]; rfl)
            have HUU := Lib.hid hu
            clear hu
            go_wp2_with (go_at_call 125; refine (decimal_within _ _).mono ?_; rintro e w' ⟨rfl, rfl⟩; rw [HUU.out])
            all_goals
              rw [HF.out]
              refine bodyPost_ret (v := .tuple #[.agg #[.int .i64 0, .int .i64 0], .bool false]) (by simp [results, Tryz.results99, go_sem]) rfl ⟨rfl, ?_⟩
              exact (Ext.refl w).alloc _
          · have HF := Lib.hid (show joinS (a * 1000000 + b) = ((W * pw (m : Int) + p, (m : Int)), true) by unfold joinS; rw [HN.out, hu]; rfl)
            have HUU := Lib.hid hu
            clear hu
            go_wp2_with (go_at_call 125; refine (decimal_within _ _).mono ?_; rintro e w' ⟨rfl, rfl⟩; rw [HUU.out])
            all_goals
              rw [HF.out]
              refine bodyPost_ret (v := .tuple #[.agg #[.int .i64 (W * pw (m : Int) + p), .int .i64 (m : Int)], .bool true]) (by simp [results, Tryz.results99, go_sem]) rfl ⟨rfl, ?_⟩
              exact (Ext.refl w).alloc _
      · have hm0' : ¬ (0 : Int) < (m : Int) := by omega
        have HN := Lib.hid (join_norm W R p m a b hm HPR.out HWR.out (Or.inl (by omega)))
        obtain rfl : m = 0 := by omega
        have HN' := Lib.hid (show normU (a * 1000000 + b) = (W + p, 0) by have := HN.out; simpa [pw] using this)
        have hcell := HT.out.1
        by_cases hlo : W < -1000000000000000
        · have HF := Lib.hid (join_no W R p 0 a b hm HPR.out hR1 hR2 HSG.out HN.out (Or.inl (by simpa [pw] using hlo)))
          try (exfalso; omega)
          all_goals go_wp2
          all_goals
            rw [HF.out]
            refine bodyPost_ret (v := .tuple #[.agg #[.int .i64 0, .int .i64 0], .bool false]) (by simp [results, Tryz.results99, go_sem]) rfl ⟨rfl, ?_⟩
            exact (Ext.refl w).alloc _
        by_cases hhi : 1000000000000000 < W
        · have HF := Lib.hid (join_no W R p 0 a b hm HPR.out hR1 hR2 HSG.out HN.out (Or.inr (by simpa [pw] using hhi)))
          try (exfalso; omega)
          all_goals go_wp2
          all_goals
            rw [HF.out]
            refine bodyPost_ret (v := .tuple #[.agg #[.int .i64 0, .int .i64 0], .bool false]) (by simp [results, Tryz.results99, go_sem]) rfl ⟨rfl, ?_⟩
            exact (Ext.refl w).alloc _
        cases hu : unitsB (W + p)
        · have HF := Lib.hid (show joinS (a * 1000000 + b) = ((0, 0), false) by unfold joinS; rw [HN'.out, hu]; rfl)
          have HUU := Lib.hid hu
          clear hu
          go_wp2_with (go_at_call 125; refine (decimal_within _ _).mono ?_; rintro e w' ⟨rfl, rfl⟩; rw [HUU.out])
          all_goals
            rw [HF.out]
            refine bodyPost_ret (v := .tuple #[.agg #[.int .i64 0, .int .i64 0], .bool false]) (by simp [results, Tryz.results99, go_sem]) rfl ⟨rfl, ?_⟩
            exact (Ext.refl w).alloc _
        · have HF := Lib.hid (show joinS (a * 1000000 + b) = ((W + p, 0), true) by unfold joinS; rw [HN'.out, hu]; rfl)
          have HUU := Lib.hid hu
          clear hu
          go_wp2_with (go_at_call 125; refine (decimal_within _ _).mono ?_; rintro e w' ⟨rfl, rfl⟩; rw [HUU.out])
          all_goals
            rw [HF.out]
            refine bodyPost_ret (v := .tuple #[.agg #[.int .i64 (W + p), .int .i64 0], .bool true]) (by simp [results, Tryz.results99, go_sem]) rfl ⟨rfl, ?_⟩
            exact (Ext.refl w).alloc _

set_option maxRecDepth 100000 in
set_option maxHeartbeats 2000000 in
theorem decimal_join_neg (a b : Int) (w : World) (ht : Tens w) (ha1 : -4000000000000000 ≤ a) (ha2 : a ≤ 4000000000000000) (hb1 : -4000000 ≤ b) (hb2 : b ≤ 4000000) (hb0 : b < 0) :
    Calls Tryz.prog 99 #[.int .i64 a, .int .i64 b] w (RetDB w (joinS (a * 1000000 + b))) := by
  have hp := ht.pos
  have HT := Lib.hid ht
  clear ht
  obtain ⟨d1, d2, d3, d4, d5⟩ := tdm b 1000000 (by decide)
  have HU := Lib.hid d1
  have q1 : -5 ≤ b.tdiv 1000000 := by omega
  have q2 : b.tdiv 1000000 ≤ 5 := by omega
  have d6 : b.tmod 1000000 ≤ 0 := d5 (by omega)
  clear d1 d4 d5
  go_enter Tryz.func99, Tryz.ntmps99
  go_wp2_with fail
  · have hWR : (a + b.tdiv 1000000 - 1) * 1000000 + (b.tmod 1000000 + 1000000) = a * 1000000 + b := by have := HU.out; omega
    have hR1 : -1000000 < b.tmod 1000000 + 1000000 := by omega
    have hR2 : b.tmod 1000000 + 1000000 < 1000000 := by omega
    have hW1 : -4000000000000010 ≤ a + b.tdiv 1000000 - 1 := by omega
    have hW2 : a + b.tdiv 1000000 - 1 ≤ 4000000000000010 := by omega
    have hsg : (0 < a + b.tdiv 1000000 - 1 → 0 ≤ b.tmod 1000000 + 1000000) ∧ (a + b.tdiv 1000000 - 1 < 0 → b.tmod 1000000 + 1000000 ≤ 0) := by omega
    have HWR := Lib.hid hWR
    have HSG := Lib.hid hsg
    clear hWR hsg
    generalize hWe : a + b.tdiv 1000000 - 1 = W at *
    generalize hRe : b.tmod 1000000 + 1000000 = R at *
    clear hWe hRe
    go_loop [1, 6] (fun v i => ∃ (p : Int) (m : Nat), m ≤ 6 ∧ v = .int .i64 p ∧ i = .int .i64 m ∧ p * pw (6 - (m : Int)) = R) (fun _ i => (intOf i).toNat)
    case atStart => exact ⟨R, 6, by omega, rfl, rfl, by simp [pw]⟩
    case round =>
      obtain ⟨p, m, hm, rfl, rfl, hpR⟩ := hrel
      have HPR := Lib.hid hpR
      clear hpR
      have hpb := join_bd p R m hm HPR.out hR1 hR2
      obtain ⟨hpb1, hpb2⟩ := hpb
      obtain ⟨x1, x2, x3, x4, x5⟩ := tdm p 10 (by decide)
      have HX1 := Lib.hid x1
      clear x1
      by_cases hm0 : 0 < m
      · have hm0' : (0 : Int) < (m : Int) := by omega
        by_cases hz : p.tmod 10 = 0
        · have hz' : (p.tmod 10 == 0) = true := by simp [hz]
          have HZ := Lib.hid hz
          clear hz
          go_wp2
          go_round
          case rel => exact ⟨p.tdiv 10, m - 1, by omega, rfl, by congr 1; omega, join_step p R m hm hm0 HPR.out HX1.out HZ.out⟩
          case measure => simp [intOf]; omega
        · have hz' : (p.tmod 10 == 0) = false := by simp [hz]
          have HN := Lib.hid (join_norm W R p m a b hm HPR.out HWR.out (Or.inr hz))
          clear hz
          have hcell := tens_at HT.out m hm
          have hpw := pw_bd m hm
          obtain ⟨hpw1, hpw2⟩ := hpw
          have hdv := quo_bd m hm
          obtain ⟨hdv1, hdv2⟩ := hdv
          by_cases hlo : W < -(1000000000000000 / pw (m : Int))
          · have HF := Lib.hid (join_no W R p m a b hm HPR.out hR1 hR2 HSG.out HN.out (Or.inl hlo))
            try (exfalso; omega)
            all_goals go_wp2
            all_goals
              rw [HF.out]
              refine bodyPost_ret (v := .tuple #[.agg #[.int .i64 0, .int .i64 0], .bool false]) (by simp [results, Tryz.results99, go_sem]) rfl ⟨rfl, ?_⟩
              exact (Ext.refl w).alloc _
          by_cases hhi : 1000000000000000 / pw (m : Int) < W
          · have HF := Lib.hid (join_no W R p m a b hm HPR.out hR1 hR2 HSG.out HN.out (Or.inr hhi))
            try (exfalso; omega)
            all_goals go_wp2
            all_goals
              rw [HF.out]
              refine bodyPost_ret (v := .tuple #[.agg #[.int .i64 0, .int .i64 0], .bool false]) (by simp [results, Tryz.results99, go_sem]) rfl ⟨rfl, ?_⟩
              exact (Ext.refl w).alloc _
          have hprod := prod_bd W m hm (by omega) (by omega)
          obtain ⟨hprod1, hprod2⟩ := hprod
          cases hu : unitsB (W * pw (m : Int) + p)
          · have HF := Lib.hid (show joinS (a * 1000000 + b) = ((0, 0), false) by unfold joinS; rw [HN.out, hu]; rfl)
            have HUU := Lib.hid hu
            clear hu
            go_wp2_with (go_at_call 125; refine (decimal_within _ _).mono ?_; rintro e w' ⟨rfl, rfl⟩; rw [HUU.out])
            all_goals
              rw [HF.out]
              refine bodyPost_ret (v := .tuple #[.agg #[.int .i64 0, .int .i64 0], .bool false]) (by simp [results, Tryz.results99, go_sem]) rfl ⟨rfl, ?_⟩
              exact (Ext.refl w).alloc _
          · have HF := Lib.hid (show joinS (a * 1000000 + b) = ((W * pw (m : Int) + p, (m : Int)), true) by unfold joinS; rw [HN.out, hu]; rfl)
            have HUU := Lib.hid hu
            clear hu
            go_wp2_with (go_at_call 125; refine (decimal_within _ _).mono ?_; rintro e w' ⟨rfl, rfl⟩; rw [HUU.out])
            all_goals
              rw [HF.out]
              refine bodyPost_ret (v := .tuple #[.agg #[.int .i64 (W * pw (m : Int) + p), .int .i64 (m : Int)], .bool true]) (by simp [results, Tryz.results99, go_sem]) rfl ⟨rfl, ?_⟩
              exact (Ext.refl w).alloc _
      · have hm0' : ¬ (0 : Int) < (m : Int) := by omega
        have HN := Lib.hid (join_norm W R p m a b hm HPR.out HWR.out (Or.inl (by omega)))
        obtain rfl : m = 0 := by omega
        have HN' := Lib.hid (show normU (a * 1000000 + b) = (W + p, 0) by have := HN.out; simpa [pw] using this)
        have hcell := HT.out.1
        by_cases hlo : W < -1000000000000000
        · have HF := Lib.hid (join_no W R p 0 a b hm HPR.out hR1 hR2 HSG.out HN.out (Or.inl (by simpa [pw] using hlo)))
          try (exfalso; omega)
          all_goals go_wp2
          all_goals
            rw [HF.out]
            refine bodyPost_ret (v := .tuple #[.agg #[.int .i64 0, .int .i64 0], .bool false]) (by simp [results, Tryz.results99, go_sem]) rfl ⟨rfl, ?_⟩
            exact (Ext.refl w).alloc _
        by_cases hhi : 1000000000000000 < W
        · have HF := Lib.hid (join_no W R p 0 a b hm HPR.out hR1 hR2 HSG.out HN.out (Or.inr (by simpa [pw] using hhi)))
          try (exfalso; omega)
          all_goals go_wp2
          all_goals
            rw [HF.out]
            refine bodyPost_ret (v := .tuple #[.agg #[.int .i64 0, .int .i64 0], .bool false]) (by simp [results, Tryz.results99, go_sem]) rfl ⟨rfl, ?_⟩
            exact (Ext.refl w).alloc _
        cases hu : unitsB (W + p)
        · have HF := Lib.hid (show joinS (a * 1000000 + b) = ((0, 0), false) by unfold joinS; rw [HN'.out, hu]; rfl)
          have HUU := Lib.hid hu
          clear hu
          go_wp2_with (go_at_call 125; refine (decimal_within _ _).mono ?_; rintro e w' ⟨rfl, rfl⟩; rw [HUU.out])
          all_goals
            rw [HF.out]
            refine bodyPost_ret (v := .tuple #[.agg #[.int .i64 0, .int .i64 0], .bool false]) (by simp [results, Tryz.results99, go_sem]) rfl ⟨rfl, ?_⟩
            exact (Ext.refl w).alloc _
        · have HF := Lib.hid (show joinS (a * 1000000 + b) = ((W + p, 0), true) by unfold joinS; rw [HN'.out, hu]; rfl)
          have HUU := Lib.hid hu
          clear hu
          go_wp2_with (go_at_call 125; refine (decimal_within _ _).mono ?_; rintro e w' ⟨rfl, rfl⟩; rw [HUU.out])
          all_goals
            rw [HF.out]
            refine bodyPost_ret (v := .tuple #[.agg #[.int .i64 (W + p), .int .i64 0], .bool true]) (by simp [results, Tryz.results99, go_sem]) rfl ⟨rfl, ?_⟩
            exact (Ext.refl w).alloc _
  · have hWR : (a + b.tdiv 1000000) * 1000000 + (b.tmod 1000000) = a * 1000000 + b := by have := HU.out; omega
    have hR1 : -1000000 < b.tmod 1000000 := by omega
    have hR2 : b.tmod 1000000 < 1000000 := by omega
    have hW1 : -4000000000000010 ≤ a + b.tdiv 1000000 := by omega
    have hW2 : a + b.tdiv 1000000 ≤ 4000000000000010 := by omega
    have hsg : (0 < a + b.tdiv 1000000 → 0 ≤ b.tmod 1000000) ∧ (a + b.tdiv 1000000 < 0 → b.tmod 1000000 ≤ 0) := by omega
    have HWR := Lib.hid hWR
    have HSG := Lib.hid hsg
    clear hWR hsg
    generalize hWe : a + b.tdiv 1000000 = W at *
    generalize hRe : b.tmod 1000000 = R at *
    clear hWe hRe
    go_loop [1, 6] (fun v i => ∃ (p : Int) (m : Nat), m ≤ 6 ∧ v = .int .i64 p ∧ i = .int .i64 m ∧ p * pw (6 - (m : Int)) = R) (fun _ i => (intOf i).toNat)
    case atStart => exact ⟨R, 6, by omega, rfl, rfl, by simp [pw]⟩
    case round =>
      obtain ⟨p, m, hm, rfl, rfl, hpR⟩ := hrel
      have HPR := Lib.hid hpR
      clear hpR
      have hpb := join_bd p R m hm HPR.out hR1 hR2
      obtain ⟨hpb1, hpb2⟩ := hpb
      obtain ⟨x1, x2, x3, x4, x5⟩ := tdm p 10 (by decide)
      have HX1 := Lib.hid x1
      clear x1
      by_cases hm0 : 0 < m
      · have hm0' : (0 : Int) < (m : Int) := by omega
        by_cases hz : p.tmod 10 = 0
        · have hz' : (p.tmod 10 == 0) = true := by simp [hz]
          have HZ := Lib.hid hz
          clear hz
          go_wp2
          go_round
          case rel => exact ⟨p.tdiv 10, m - 1, by omega, rfl, by congr 1; omega, join_step p R m hm hm0 HPR.out HX1.out HZ.out⟩
          case measure => simp [intOf]; omega
        · have hz' : (p.tmod 10 == 0) = false := by simp [hz]
          have HN := Lib.hid (join_norm W R p m a b hm HPR.out HWR.out (Or.inr hz))
          clear hz
          have hcell := tens_at HT.out m hm
          have hpw := pw_bd m hm
          obtain ⟨hpw1, hpw2⟩ := hpw
          have hdv := quo_bd m hm
          obtain ⟨hdv1, hdv2⟩ := hdv
          by_cases hlo : W < -(1000000000000000 / pw (m : Int))
          · have HF := Lib.hid (join_no W R p m a b hm HPR.out hR1 hR2 HSG.out HN.out (Or.inl hlo))
            try (exfalso; omega)
            all_goals go_wp2
            all_goals
              rw [HF.out]
              refine bodyPost_ret (v := .tuple #[.agg #[.int .i64 0, .int .i64 0], .bool false]) (by simp [results, Tryz.results99, go_sem]) rfl ⟨rfl, ?_⟩
              exact (Ext.refl w).alloc _
          by_cases hhi : 1000000000000000 / pw (m : Int) < W
          · have HF := Lib.hid (join_no W R p m a b hm HPR.out hR1 hR2 HSG.out HN.out (Or.inr hhi))
            try (exfalso; omega)
            all_goals go_wp2
            all_goals
              rw [HF.out]
              refine bodyPost_ret (v := .tuple #[.agg #[.int .i64 0, .int .i64 0], .bool false]) (by simp [results, Tryz.results99, go_sem]) rfl ⟨rfl, ?_⟩
              exact (Ext.refl w).alloc _
          have hprod := prod_bd W m hm (by omega) (by omega)
          obtain ⟨hprod1, hprod2⟩ := hprod
          cases hu : unitsB (W * pw (m : Int) + p)
          · have HF := Lib.hid (show joinS (a * 1000000 + b) = ((0, 0), false) by unfold joinS; rw [HN.out, hu]; rfl)
            have HUU := Lib.hid hu
            clear hu
            go_wp2_with (go_at_call 125; refine (decimal_within _ _).mono ?_; rintro e w' ⟨rfl, rfl⟩; rw [HUU.out])
            all_goals
              rw [HF.out]
              refine bodyPost_ret (v := .tuple #[.agg #[.int .i64 0, .int .i64 0], .bool false]) (by simp [results, Tryz.results99, go_sem]) rfl ⟨rfl, ?_⟩
              exact (Ext.refl w).alloc _
          · have HF := Lib.hid (show joinS (a * 1000000 + b) = ((W * pw (m : Int) + p, (m : Int)), true) by unfold joinS; rw [HN.out, hu]; rfl)
            have HUU := Lib.hid hu
            clear hu
            go_wp2_with (go_at_call 125; refine (decimal_within _ _).mono ?_; rintro e w' ⟨rfl, rfl⟩; rw [HUU.out])
            all_goals
              rw [HF.out]
              refine bodyPost_ret (v := .tuple #[.agg #[.int .i64 (W * pw (m : Int) + p), .int .i64 (m : Int)], .bool true]) (by simp [results, Tryz.results99, go_sem]) rfl ⟨rfl, ?_⟩
              exact (Ext.refl w).alloc _
      · have hm0' : ¬ (0 : Int) < (m : Int) := by omega
        have HN := Lib.hid (join_norm W R p m a b hm HPR.out HWR.out (Or.inl (by omega)))
        obtain rfl : m = 0 := by omega
        have HN' := Lib.hid (show normU (a * 1000000 + b) = (W + p, 0) by have := HN.out; simpa [pw] using this)
        have hcell := HT.out.1
        by_cases hlo : W < -1000000000000000
        · have HF := Lib.hid (join_no W R p 0 a b hm HPR.out hR1 hR2 HSG.out HN.out (Or.inl (by simpa [pw] using hlo)))
          try (exfalso; omega)
          all_goals go_wp2
          all_goals
            rw [HF.out]
            refine bodyPost_ret (v := .tuple #[.agg #[.int .i64 0, .int .i64 0], .bool false]) (by simp [results, Tryz.results99, go_sem]) rfl ⟨rfl, ?_⟩
            exact (Ext.refl w).alloc _
        by_cases hhi : 1000000000000000 < W
        · have HF := Lib.hid (join_no W R p 0 a b hm HPR.out hR1 hR2 HSG.out HN.out (Or.inr (by simpa [pw] using hhi)))
          try (exfalso; omega)
          all_goals go_wp2
          all_goals
            rw [HF.out]
            refine bodyPost_ret (v := .tuple #[.agg #[.int .i64 0, .int .i64 0], .bool false]) (by simp [results, Tryz.results99, go_sem]) rfl ⟨rfl, ?_⟩
            exact (Ext.refl w).alloc _
        cases hu : unitsB (W + p)
        · have HF := Lib.hid (show joinS (a * 1000000 + b) = ((0, 0), false) by unfold joinS; rw [HN'.out, hu]; rfl)
          have HUU := Lib.hid hu
          clear hu
          go_wp2_with (go_at_call 125; refine (decimal_within _ _).mono ?_; rintro e w' ⟨rfl, rfl⟩; rw [HUU.out])
          all_goals
            rw [HF.out]
            refine bodyPost_ret (v := .tuple #[.agg #[.int .i64 0, .int .i64 0], .bool false]) (by simp [results, Tryz.results99, go_sem]) rfl ⟨rfl, ?_⟩
            exact (Ext.refl w).alloc _
        · have HF := Lib.hid (show joinS (a * 1000000 + b) = ((W + p, 0), true) by unfold joinS; rw [HN'.out, hu]; rfl)
          have HUU := Lib.hid hu
          clear hu
          go_wp2_with (go_at_call 125; refine (decimal_within _ _).mono ?_; rintro e w' ⟨rfl, rfl⟩; rw [HUU.out])
          all_goals
            rw [HF.out]
            refine bodyPost_ret (v := .tuple #[.agg #[.int .i64 (W + p), .int .i64 0], .bool true]) (by simp [results, Tryz.results99, go_sem]) rfl ⟨rfl, ?_⟩
            exact (Ext.refl w).alloc _
  · have hWR : (a + b.tdiv 1000000) * 1000000 + (b.tmod 1000000) = a * 1000000 + b := by have := HU.out; omega
    have hR1 : -1000000 < b.tmod 1000000 := by omega
    have hR2 : b.tmod 1000000 < 1000000 := by omega
    have hW1 : -4000000000000010 ≤ a + b.tdiv 1000000 := by omega
    have hW2 : a + b.tdiv 1000000 ≤ 4000000000000010 := by omega
    have hsg : (0 < a + b.tdiv 1000000 → 0 ≤ b.tmod 1000000) ∧ (a + b.tdiv 1000000 < 0 → b.tmod 1000000 ≤ 0) := by omega
    have HWR := Lib.hid hWR
    have HSG := Lib.hid hsg
    clear hWR hsg
    generalize hWe : a + b.tdiv 1000000 = W at *
    generalize hRe : b.tmod 1000000 = R at *
    clear hWe hRe
    go_loop [1, 6] (fun v i => ∃ (p : Int) (m : Nat), m ≤ 6 ∧ v = .int .i64 p ∧ i = .int .i64 m ∧ p * pw (6 - (m : Int)) = R) (fun _ i => (intOf i).toNat)
    case atStart => exact ⟨R, 6, by omega, rfl, rfl, by simp [pw]⟩
    case round =>
      obtain ⟨p, m, hm, rfl, rfl, hpR⟩ := hrel
      have HPR := Lib.hid hpR
      clear hpR
      have hpb := join_bd p R m hm HPR.out hR1 hR2
      obtain ⟨hpb1, hpb2⟩ := hpb
      obtain ⟨x1, x2, x3, x4, x5⟩ := tdm p 10 (by decide)
      have HX1 := Lib.hid x1
      clear x1
      by_cases hm0 : 0 < m
      · have hm0' : (0 : Int) < (m : Int) := by omega
        by_cases hz : p.tmod 10 = 0
        · have hz' : (p.tmod 10 == 0) = true := by simp [hz]
          have HZ := Lib.hid hz
          clear hz
          go_wp2
          go_round
          case rel => exact ⟨p.tdiv 10, m - 1, by omega, rfl, by congr 1; omega, join_step p R m hm hm0 HPR.out HX1.out HZ.out⟩
          case measure => simp [intOf]; omega
        · have hz' : (p.tmod 10 == 0) = false := by simp [hz]
          have HN := Lib.hid (join_norm W R p m a b hm HPR.out HWR.out (Or.inr hz))
          clear hz
          have hcell := tens_at HT.out m hm
          have hpw := pw_bd m hm
          obtain ⟨hpw1, hpw2⟩ := hpw
          have hdv := quo_bd m hm
          obtain ⟨hdv1, hdv2⟩ := hdv
          by_cases hlo : W < -(1000000000000000 / pw (m : Int))
          · have HF := Lib.hid (join_no W R p m a b hm HPR.out hR1 hR2 HSG.out HN.out (Or.inl hlo))
            try (exfalso; omega)
            all_goals go_wp2
            all_goals
              rw [HF.out]
              refine bodyPost_ret (v := .tuple #[.agg #[.int .i64 0, .int .i64 0], .bool false]) (by simp [results, Tryz.results99, go_sem]) rfl ⟨rfl, ?_⟩
              exact (Ext.refl w).alloc _
          by_cases hhi : 1000000000000000 / pw (m : Int) < W
          · have HF := Lib.hid (join_no W R p m a b hm HPR.out hR1 hR2 HSG.out HN.out (Or.inr hhi))
            try (exfalso; omega)
            all_goals go_wp2
            all_goals
              rw [HF.out]
              refine bodyPost_ret (v := .tuple #[.agg #[.int .i64 0, .int .i64 0], .bool false]) (by simp [results, Tryz.results99, go_sem]) rfl ⟨rfl, ?_⟩
              exact (Ext.refl w).alloc _
          have hprod := prod_bd W m hm (by omega) (by omega)
          obtain ⟨hprod1, hprod2⟩ := hprod
          cases hu : unitsB (W * pw (m : Int) + p)
          · have HF := Lib.hid (show joinS (a * 1000000 + b) = ((0, 0), false) by unfold joinS; rw [HN.out, hu]; rfl)
            have HUU := Lib.hid hu
            clear hu
            go_wp2_with (go_at_call 125; refine (decimal_within _ _).mono ?_; rintro e w' ⟨rfl, rfl⟩; rw [HUU.out])
            all_goals
              rw [HF.out]
              refine bodyPost_ret (v := .tuple #[.agg #[.int .i64 0, .int .i64 0], .bool false]) (by simp [results, Tryz.results99, go_sem]) rfl ⟨rfl, ?_⟩
              exact (Ext.refl w).alloc _
          · have HF := Lib.hid (show joinS (a * 1000000 + b) = ((W * pw (m : Int) + p, (m : Int)), true) by unfold joinS; rw [HN.out, hu]; rfl)
            have HUU := Lib.hid hu
            clear hu
            go_wp2_with (go_at_call 125; refine (decimal_within _ _).mono ?_; rintro e w' ⟨rfl, rfl⟩; rw [HUU.out])
            all_goals
              rw [HF.out]
              refine bodyPost_ret (v := .tuple #[.agg #[.int .i64 (W * pw (m : Int) + p), .int .i64 (m : Int)], .bool true]) (by simp [results, Tryz.results99, go_sem]) rfl ⟨rfl, ?_⟩
              exact (Ext.refl w).alloc _
      · have hm0' : ¬ (0 : Int) < (m : Int) := by omega
        have HN := Lib.hid (join_norm W R p m a b hm HPR.out HWR.out (Or.inl (by omega)))
        obtain rfl : m = 0 := by omega
        have HN' := Lib.hid (show normU (a * 1000000 + b) = (W + p, 0) by have := HN.out; simpa [pw] using this)
        have hcell := HT.out.1
        by_cases hlo : W < -1000000000000000
        · have HF := Lib.hid (join_no W R p 0 a b hm HPR.out hR1 hR2 HSG.out HN.out (Or.inl (by simpa [pw] using hlo)))
          try (exfalso; omega)
          all_goals go_wp2
          all_goals
            rw [HF.out]
            refine bodyPost_ret (v := .tuple #[.agg #[.int .i64 0, .int .i64 0], .bool false]) (by simp [results, Tryz.results99, go_sem]) rfl ⟨rfl, ?_⟩
            exact (Ext.refl w).alloc _
        by_cases hhi : 1000000000000000 < W
        · have HF := Lib.hid (join_no W R p 0 a b hm HPR.out hR1 hR2 HSG.out HN.out (Or.inr (by simpa [pw] using hhi)))
          try (exfalso; omega)
          all_goals go_wp2
          all_goals
            rw [HF.out]
            refine bodyPost_ret (v := .tuple #[.agg #[.int .i64 0, .int .i64 0], .bool false]) (by simp [results, Tryz.results99, go_sem]) rfl ⟨rfl, ?_⟩
            exact (Ext.refl w).alloc _
        cases hu : unitsB (W + p)
        · have HF := Lib.hid (show joinS (a * 1000000 + b) = ((0, 0), false) by unfold joinS; rw [HN'.out, hu]; rfl)
          have HUU := Lib.hid hu
          clear hu
          go_wp2_with (go_at_call 125; refine (decimal_within _ _).mono ?_; rintro e w' ⟨rfl, rfl⟩; rw [HUU.out])
          all_goals
            rw [HF.out]
            refine bodyPost_ret (v := .tuple #[.agg #[.int .i64 0, .int .i64 0], .bool false]) (by simp [results, Tryz.results99, go_sem]) rfl ⟨rfl, ?_⟩
            exact (Ext.refl w).alloc _
        · have HF := Lib.hid (show joinS (a * 1000000 + b) = ((W + p, 0), true) by unfold joinS; rw [HN'.out, hu]; rfl)
          have HUU := Lib.hid hu
          clear hu
          go_wp2_with (go_at_call 125; refine (decimal_within _ _).mono ?_; rintro e w' ⟨rfl, rfl⟩; rw [HUU.out])
          all_goals
            rw [HF.out]
            refine bodyPost_ret (v := .tuple #[.agg #[.int .i64 (W + p), .int .i64 0], .bool true]) (by simp [results, Tryz.results99, go_sem]) rfl ⟨rfl, ?_⟩
            exact (Ext.refl w).alloc _
  · have hWR : (a + b.tdiv 1000000) * 1000000 + (b.tmod 1000000) = a * 1000000 + b := by have := HU.out; omega
    have hR1 : -1000000 < b.tmod 1000000 := by omega
    have hR2 : b.tmod 1000000 < 1000000 := by omega
    have hW1 : -4000000000000010 ≤ a + b.tdiv 1000000 := by omega
    have hW2 : a + b.tdiv 1000000 ≤ 4000000000000010 := by omega
    have hsg : (0 < a + b.tdiv 1000000 → 0 ≤ b.tmod 1000000) ∧ (a + b.tdiv 1000000 < 0 → b.tmod 1000000 ≤ 0) := by omega
    have HWR := Lib.hid hWR
    have HSG := Lib.hid hsg
    clear hWR hsg
    generalize hWe : a + b.tdiv 1000000 = W at *
    generalize hRe : b.tmod 1000000 = R at *
    clear hWe hRe
    go_loop [1, 6] (fun v i => ∃ (p : Int) (m : Nat), m ≤ 6 ∧ v = .int .i64 p ∧ i = .int .i64 m ∧ p * pw (6 - (m : Int)) = R) (fun _ i => (intOf i).toNat)
    case atStart => exact ⟨R, 6, by omega, rfl, rfl, by simp [pw]⟩
    case round =>
      obtain ⟨p, m, hm, rfl, rfl, hpR⟩ := hrel
      have HPR := Lib.hid hpR
      clear hpR
      have hpb := join_bd p R m hm HPR.out hR1 hR2
      obtain ⟨hpb1, hpb2⟩ := hpb
      obtain ⟨x1, x2, x3, x4, x5⟩ := tdm p 10 (by decide)
      have HX1 := Lib.hid x1
      clear x1
      by_cases hm0 : 0 < m
      · have hm0' : (0 : Int) < (m : Int) := by omega
        by_cases hz : p.tmod 10 = 0
        · have hz' : (p.tmod 10 == 0) = true := by simp [hz]
          have HZ := Lib.hid hz
          clear hz
          go_wp2
          go_round
          case rel => exact ⟨p.tdiv 10, m - 1, by omega, rfl, by congr 1; omega, join_step p R m hm hm0 HPR.out HX1.out HZ.out⟩
          case measure => simp [intOf]; omega
        · have hz' : (p.tmod 10 == 0) = false := by simp [hz]
          have HN := Lib.hid (join_norm W R p m a b hm HPR.out HWR.out (Or.inr hz))
          clear hz
          have hcell := tens_at HT.out m hm
          have hpw := pw_bd m hm
          obtain ⟨hpw1, hpw2⟩ := hpw
          have hdv := quo_bd m hm
          obtain ⟨hdv1, hdv2⟩ := hdv
          by_cases hlo : W < -(1000000000000000 / pw (m : Int))
          · have HF := Lib.hid (join_no W R p m a b hm HPR.out hR1 hR2 HSG.out HN.out (Or.inl hlo))
            try (exfalso; omega)
            all_goals go_wp2
            all_goals
              rw [HF.out]
              refine bodyPost_ret (v := .tuple #[.agg #[.int .i64 0, .int .i64 0], .bool false]) (by simp [results, Tryz.results99, go_sem]) rfl ⟨rfl, ?_⟩
              exact (Ext.refl w).alloc _
          by_cases hhi : 1000000000000000 / pw (m : Int) < W
          · have HF := Lib.hid (join_no W R p m a b hm HPR.out hR1 hR2 HSG.out HN.out (Or.inr hhi))
            try (exfalso; omega)
            all_goals go_wp2
            all_goals
              rw [HF.out]
              refine bodyPost_ret (v := .tuple #[.agg #[.int .i64 0, .int .i64 0], .bool false]) (by simp [results, Tryz.results99, go_sem]) rfl ⟨rfl, ?_⟩
              exact (Ext.refl w).alloc _
          have hprod := prod_bd W m hm (by omega) (by omega)
          obtain ⟨hprod1, hprod2⟩ := hprod
          cases hu : unitsB (W * pw (m : Int) + p)
          · have HF := Lib.hid (show joinS (a * 1000000 + b) = ((0, 0), false) by unfold joinS; rw [HN.out, hu]; rfl)
            have HUU := Lib.hid hu
            clear hu
            go_wp2_with (go_at_call 125; refine (decimal_within _ _).mono ?_; rintro e w' ⟨rfl, rfl⟩; rw [HUU.out])
            all_goals
              rw [HF.out]
              refine bodyPost_ret (v := .tuple #[.agg #[.int .i64 0, .int .i64 0], .bool false]) (by simp [results, Tryz.results99, go_sem]) rfl ⟨rfl, ?_⟩
              exact (Ext.refl w).alloc _
          · have HF := Lib.hid (show joinS (a * 1000000 + b) = ((W * pw (m : Int) + p, (m : Int)), true) by unfold joinS; rw [HN.out, hu]; rfl)
            have HUU := Lib.hid hu
            clear hu
            go_wp2_with (go_at_call 125; refine (decimal_within _ _).mono ?_; rintro e w' ⟨rfl, rfl⟩; rw [HUU.out])
            all_goals
              rw [HF.out]
              refine bodyPost_ret (v := .tuple #[.agg #[.int .i64 (W * pw (m : Int) + p), .int .i64 (m : Int)], .bool true]) (by simp [results, Tryz.results99, go_sem]) rfl ⟨rfl, ?_⟩
              exact (Ext.refl w).alloc _
      · have hm0' : ¬ (0 : Int) < (m : Int) := by omega
        have HN := Lib.hid (join_norm W R p m a b hm HPR.out HWR.out (Or.inl (by omega)))
        obtain rfl : m = 0 := by omega
        have HN' := Lib.hid (show normU (a * 1000000 + b) = (W + p, 0) by have := HN.out; simpa [pw] using this)
        have hcell := HT.out.1
        by_cases hlo : W < -1000000000000000
        · have HF := Lib.hid (join_no W R p 0 a b hm HPR.out hR1 hR2 HSG.out HN.out (Or.inl (by simpa [pw] using hlo)))
          try (exfalso; omega)
          all_goals go_wp2
          all_goals
            rw [HF.out]
            refine bodyPost_ret (v := .tuple #[.agg #[.int .i64 0, .int .i64 0], .bool false]) (by simp [results, Tryz.results99, go_sem]) rfl ⟨rfl, ?_⟩
            exact (Ext.refl w).alloc _
        by_cases hhi : 1000000000000000 < W
        · have HF := Lib.hid (join_no W R p 0 a b hm HPR.out hR1 hR2 HSG.out HN.out (Or.inr (by simpa [pw] using hhi)))
          try (exfalso; omega)
          all_goals go_wp2
          all_goals
            rw [HF.out]
            refine bodyPost_ret (v := .tuple #[.agg #[.int .i64 0, .int .i64 0], .bool false]) (by simp [results, Tryz.results99, go_sem]) rfl ⟨rfl, ?_⟩
            exact (Ext.refl w).alloc _
        cases hu : unitsB (W + p)
        · have HF := Lib.hid (show joinS (a * 1000000 + b) = ((0, 0), false) by unfold joinS; rw [HN'.out, hu]; rfl)
          have HUU := Lib.hid hu
          clear hu
          go_wp2_with (go_at_call 125; refine (decimal_within _ _).mono ?_; rintro e w' ⟨rfl, rfl⟩; rw [HUU.out])
          all_goals
            rw [HF.out]
            refine bodyPost_ret (v := .tuple #[.agg #[.int .i64 0, .int .i64 0], .bool false]) (by simp [results, Tryz.results99, go_sem]) rfl ⟨rfl, ?_⟩
            exact (Ext.refl w).alloc _
        · have HF := Lib.hid (show joinS (a * 1000000 + b) = ((W + p, 0), true) by unfold joinS; rw [HN'.out, hu]; rfl)
          have HUU := Lib.hid hu
          clear hu
          go_wp2_with (go_at_call 125; refine (decimal_within _ _).mono ?_; rintro e w' ⟨rfl, rfl⟩; rw [HUU.out])
          all_goals
            rw [HF.out]
            refine bodyPost_ret (v := .tuple #[.agg #[.int .i64 (W + p), .int .i64 0], .bool true]) (by simp [results, Tryz.results99, go_sem]) rfl ⟨rfl, ?_⟩
            exact (Ext.refl w).alloc _

theorem decimal_join (a b : Int) (w : World) (ht : Tens w) (ha1 : -4000000000000000 ≤ a) (ha2 : a ≤ 4000000000000000) (hb1 : -4000000 ≤ b) (hb2 : b ≤ 4000000) :
    Calls Tryz.prog 99 #[.int .i64 a, .int .i64 b] w (RetDB w (joinS (a * 1000000 + b))) := by
  by_cases hb0 : 0 ≤ b
  · exact decimal_join_pos a b w ht ha1 ha2 hb1 hb2 hb0
  · exact decimal_join_neg a b w ht ha1 ha2 hb1 hb2 (by omega)
end Go.Proofs.YtcmmkeiiapbgcaaGreatDoor
