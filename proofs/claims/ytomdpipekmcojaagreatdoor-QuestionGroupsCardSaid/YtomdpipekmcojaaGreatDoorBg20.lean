/- The law QuestionGroups: groups and useful inputs are those of the reference. Conditions: the numbers read as data. -/
import Derived.Test.YtomdpipekmcojaaGreatDoorBg19
namespace Go.Proofs.YtomdpipekmcojaaGreatDoor
open Go Go.RowKit

theorem groupsR_small (l : List (List Val)) (al : List Int) (i : Int) : (groupsR l al i).length ≤ l.length ∧ ∀ g ∈ groupsR l al i, g.length ≤ l.length := by
 unfold groupsR
 split
 ·exact ⟨Nat.zero_le _, by simp⟩
 ·have h := splitR_all (eqA l i.toNat) (ltA l i.toNat) l.length (aliveS l.length al) alive_lt
  have h2 := alive_len l.length al
  exact ⟨Nat.le_trans h.1 h2, fun g hg => Nat.le_trans (h.2 g hg).2.1 h2⟩
def GrI (w2 : World) (N : Nat) (i : Value) (wr : World) : Prop := ∃ p : Nat, p ≤ N + 2 ∧ i = .int .i64 ((p : Int) - 1) ∧ Ext w2 wr
set_option maxRecDepth 100000 in
set_option maxHeartbeats 4000000 in
theorem law_Groups (l : List (List Int)) (A : Option Addr) (c : Nat) (al : List Int) (B : Option Addr) (e : Nat) (inp : Int) (w : World) (S T : Nat → Prop) (ht : Tens w) (h : II w S A l) (ha : Rd w T B (al.map (Value.int .i64))) (hal : al.length ≤ 9223372036854775807) (hae : al.length ≤ e) :
  Calls Tryz.prog 4 #[.slice A l.length c, .slice B al.length e, .int .i64 inp] w (RetB w true) := by
 have HT := Hd ht
 have HI := Hd h
 have HAR := Hd ha
 have hll := h.1
 obtain ⟨n, en⟩ : ∃ n, n = l.length := ⟨_, rfl⟩
 have HN := Hd en
 obtain ⟨na, ena⟩ : ∃ na, na = al.length := ⟨_, rfl⟩
 have HNA := Hd ena
 rw [← en] at hll ⊢
 rw [← ena] at hal hae ⊢
 clear ht h en ha ena
 go_enter Tryz.func4, Tryz.ntmps4
 go_wp2_with fail
 refine (l25_sanity w HT.out).mono ?_
 rintro e1 w1 ⟨rfl, hx1⟩
 have HX1 := Hd hx1
 clear hx1
 have HMD := Hd (r25_Made l A c w1 S (HI.out.keep (HX1.out.kept S)))
 rw [← HN.out] at HMD
 go_wp2_with fail
 refine HMD.out.mono ?_
 rintro e2 w2 ⟨L, A2, c2, rfl, hv, hwd, h12, ho, hx2⟩
 have HX2 := Hd hx2
 have HV := Hd hv
 have HRT := Hd (made_right hv hwd)
 have HTR := Hd (made_cells hv).tri
 have HNT := Hd (made_cells hv).noT
 have hin10 : inpS L ≤ 10 := by have := made_inp hwd; omega
 have HRW := Hd (ho.rows (T := fun b => w1.heap.size ≤ b) (by omega) (fun b hb => (ho.blk hb).1) (fun b hb => hb))
 obtain ⟨N, eN⟩ : ∃ N, N = inpS L := ⟨_, rfl⟩
 have HEN := Hd eN
 obtain ⟨nL, enL⟩ : ∃ nL, nL = L.length := ⟨_, rfl⟩
 have HNL := Hd enL
 rw [← eN] at hin10
 rw [← enL] at h12 ⊢
 obtain ⟨m, em⟩ : ∃ m : Nat, m = min na 30 := ⟨_, rfl⟩
 have hm30 : m ≤ 30 := by omega
 have hmn : m ≤ na := by omega
 have hmc : m ≤ e := by omega
 have HAM := Hd (show Ints w T B (al.take m) from ⟨by have := HAR.out.take m; simpa [List.map_take] using this, by rw [List.length_take]; omega⟩)
 have hml : (al.take m).length = m := by rw [List.length_take, ← HNA.out]; omega
 have HML := Hd hml
 have HM2 := Hd (show min (na : Int) 30 = (m : Int) by omega)
 have HQG := Hd (show ∀ (i : Int) (w' : World), Ext w2 w' → Calls Tryz.prog 20 #[.slice A2 nL c2, .slice B m e, .int .i64 i] w' (RetNN w' (groupsR L (al.take m) i)) from fun i w' hx => by
  have h1 := question_Groups 1 L A2 c2 (al.take m) B e i w' _ T (HRW.out.keep (hx.kept _)) HNT.out (by rw [← HNL.out]; omega) (HT.out.kept (((HX1.out.trans HX2.out).trans hx).kept fun _ => True) trivial) (HAM.out.keep (((HX1.out.trans HX2.out).trans hx).kept T)) (by rw [HML.out]; omega)
  rw [HML.out, ← HNL.out, ← groups_eq HTR.out] at h1
  exact h1)
 have HRG := Hd (show ∀ (i : Int) (w' : World), Ext w2 w' → Calls Tryz.prog 21 #[.slice A2 nL c2, .slice B m e, .int .i64 i] w' (RetNN w' (groupsR L (al.take m) i)) from fun i w' hx => by
  have h1 := r25_Groups 1 L A2 c2 (al.take m) B e i w' _ T (HRW.out.keep (hx.kept _)) HNT.out (by rw [← HNL.out]; omega) (HAM.out.keep (((HX1.out.trans HX2.out).trans hx).kept T)) (by rw [HML.out]; omega)
  rw [HML.out, ← HNL.out] at h1
  exact h1)
 have HLI := Hd (show ∀ (i : Int) (w' wa wb : World) (Aa Ab : Option Addr) (ca cb : Nat), OwnNN w' wa.heap.size Aa ca (groupsR L (al.take m) i) → OwnNN w' wb.heap.size Ab cb (groupsR L (al.take m) i) → Calls Tryz.prog 19 #[.slice Aa (groupsR L (al.take m) i).length ca, .slice Ab (groupsR L (al.take m) i).length cb] w' (RetB w' true) from fun i w' wa wb Aa Ab ca cb h1 h2 => by
  have hs := groupsR_small L (al.take m) i
  have h3 := l25_lists _ _ Aa Ab ca cb w' _ _ (h1.nn (by have := hs.1; have := HNL.out; omega) (fun g hg => by have := hs.2 g hg; have := HNL.out; omega)) (h2.nn (by have := hs.1; have := HNL.out; omega) (fun g hg => by have := hs.2 g hg; have := HNL.out; omega))
  rw [decide_eq_true rfl] at h3
  exact h3)
 have HIN := Hd (show ∀ (w' : World), Ext w2 w' → Calls Tryz.prog 18 #[.slice A2 nL c2] w' (SameI w' (N : Int)) from fun w' hx => by
  have h1 := r25_Inputs 1 L A2 c2 w' _ (HRW.out.keep (hx.kept _))
  rw [← HNL.out, ← HEN.out] at h1
  exact h1)
 clear hv hwd ho hx2 eN enL em hml HMD
 go_upto_region 4 with fail
 rw [HM2.out, Int.toNat_natCast]
 go_wp2
 go_loopw [9] (fun i wr => GrI w2 N i wr) (fun i _ => N + 2 - (intOf i + 1).toNat)
 case atStart => exact ⟨0, Nat.zero_le _, rfl, Ext.refl _⟩
 case round =>
  obtain ⟨p, hp, rfl, hx⟩ := hrel
  have HX := Hd hx
  clear hx
  go_wp2_with fail
  refine (HIN.out _ HX.out).mono ?_
  rintro e3 w3 ⟨rfl, rfl⟩
  by_cases hpN : p < N + 2
  ·go_wp2_with fail
   refine (HQG.out ((p : Int) - 1) _ HX.out).mono ?_
   rintro e4 w4 ⟨A4, c4, rfl, ho4, hx4⟩
   have HX4 := Hd (HX.out.trans hx4)
   have HO4 := Hd ho4
   have HRC := Hd (HRG.out ((p : Int) - 1) _ HX4.out)
   obtain ⟨ng, eng⟩ : ∃ ng, ng = (groupsR L (al.take m) ((p : Int) - 1)).length := ⟨_, rfl⟩
   have HNG := Hd eng
   rw [← eng]
   clear ho4 hx4 eng
   go_wp2_with fail
   refine HRC.out.mono ?_
   rintro e5 w5 ⟨A5, c5, rfl, ho5, hx5⟩
   have HX5 := Hd (HX4.out.trans hx5)
   have HLC := Hd (HLI.out _ _ _ _ _ _ _ _ (HO4.out.ext hx5) ho5)
   rw [← HNG.out] at HLC ⊢
   clear ho5 hx5
   go_wp2_with fail
   refine HLC.out.mono ?_
   rintro e6 w6 ⟨rfl, hx6⟩
   have HX6 := Hd (HX5.out.trans hx6)
   clear hx6
   go_wp2
   go_roundw
   case rel => exact ⟨p + 1, by omega, by go_num, HX6.out⟩
   case measure => simp [intOf]; omega
  ·have hpe : p = N + 2 := by omega
   go_wp2_with fail
   refine (HQG.out inp _ HX.out).mono ?_
   rintro e4 w4 ⟨A4, c4, rfl, ho4, hx4⟩
   have HX4 := Hd (HX.out.trans hx4)
   have HO4 := Hd ho4
   have HRC := Hd (HRG.out inp _ HX4.out)
   obtain ⟨ng, eng⟩ : ∃ ng, ng = (groupsR L (al.take m) inp).length := ⟨_, rfl⟩
   have HNG := Hd eng
   rw [← eng]
   clear ho4 hx4 eng
   go_wp2_with fail
   refine HRC.out.mono ?_
   rintro e5 w5 ⟨A5, c5, rfl, ho5, hx5⟩
   have HX5 := Hd (HX4.out.trans hx5)
   have HLC := Hd (HLI.out _ _ _ _ _ _ _ _ (HO4.out.ext hx5) ho5)
   rw [← HNG.out] at HLC ⊢
   clear ho5 hx5
   go_wp2_with fail
   refine HLC.out.mono ?_
   rintro e6 w6 ⟨rfl, hx6⟩
   have HX6 := Hd (HX5.out.trans hx6)
   clear hx6
   have HUS := Hd (question_Useful 1 L A2 c2 w6 _ (HRW.out.keep (HX6.out.kept _)) HNT.out (by rw [← HEN.out]; omega))
   rw [← HNL.out] at HUS
   go_wp2_with fail
   refine HUS.out.mono ?_
   rintro e7 w7 ⟨A7, c7, rfl, ho7, hx7⟩
   have HX7 := Hd (HX6.out.trans hx7)
   have HO7 := Hd ho7
   clear ho7 hx7
   have HUR := Hd (r25_Useful 1 L A2 c2 w7 _ (HRW.out.keep (HX7.out.kept _)) HNT.out (by rw [← HNL.out]; omega) (by rw [← HEN.out]; omega))
   rw [← HNL.out, useful_eq HTR.out] at HUR
   go_wp2_with fail
   refine HUR.out.mono ?_
   rintro e8 w8 ⟨A8, c8, rfl, ho8, hx8⟩
   have HX8 := Hd (HX7.out.trans hx8)
   have HO8 := Hd ho8
   have HO7a := Hd (HO7.out.ext hx8)
   clear ho8 hx8
   have hul : (usefulS L).length ≤ 10 := by
    rw [← useful_eq HTR.out]
    have h1 : (usefulR L).length ≤ (List.range (inpS L)).length := List.length_filter_le _ _
    rw [List.length_range, ← HEN.out] at h1
    omega
   have HIC := Hd (r13_Ints (nums (usefulS L)) (nums (usefulS L)) A7 A8 c7 c8 w8 (fun b => ob A7 = some b) (fun b => ob A8 = some b) (by have := OwnN.nums HO7a.out (by omega); exact ⟨this.1, by simp [nums]; omega⟩) (by have := OwnN.nums HO8.out (by omega); exact ⟨this.1, by simp [nums]; omega⟩))
   rw [decide_eq_true rfl, show (nums (usefulS L)).length = (usefulS L).length by simp [nums]] at HIC
   go_wp2_with fail
   refine HIC.out.mono ?_
   rintro e9 w9 ⟨rfl, hx9⟩
   have HX9 := Hd (((HX1.out.trans HX2.out).trans HX8.out).trans hx9)
   clear hx9
   go_wp2
   go_ret
   exact ⟨rfl, HX9.out⟩
end Go.Proofs.YtomdpipekmcojaaGreatDoor
