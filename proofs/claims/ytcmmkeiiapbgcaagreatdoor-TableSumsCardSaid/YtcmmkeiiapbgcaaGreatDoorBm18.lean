/- The reference's Sum. Conditions: the arguments read as data. -/
import Derived.Test.YtcmmkeiiapbgcaaGreatDoorBm17
namespace Go.Proofs.YtcmmkeiiapbgcaaGreatDoor
open Go Go.RowKit

set_option maxRecDepth 100000 in
set_option maxHeartbeats 1000000 in
theorem r09_Sum (q : Nat) (x : Val) (col : ByteArray) (ln ls : Int) (A B : Option Addr) (c e : Nat) (w : World) (S : Nat → Prop) (h : RV w S q x A B) :
    Calls Tryz.prog 20 #[(.agg #[.int .i64 x.kind, .string x.s, .int .i64 x.dn, .int .i64 x.ds, .int .i64 x.n, .slice A x.cols.length c, .slice B x.rows.length e]), .string col, .agg #[.int .i64 ln, .int .i64 ls]] w (RetVE w (Fresh w) q (sumS x col ln ls)) := by
  have H := Lib.hid h
  have hcl := h.strs.2.1
  have hrl := h.rows_.len
  clear h
  go_enter Tryz.func20, Tryz.ntmps20
  go_wp2_with fail
  refine (r09_IsTable q x A B c e _ S (H.out.keep (((((Ext.refl w).alloc _).alloc _).alloc _).kept _))).mono ?_
  rintro e1 w1 ⟨rfl, hx1⟩
  have HX1 := Lib.hid ((((Ext.refl w).alloc _).alloc _).alloc _ |>.trans hx1)
  have hz0 := hx1.size
  simp at hz0
  have hz1 : w.heap.size < w1.heap.size := by omega
  have hz2 : w.heap.size + 1 < w1.heap.size := by omega
  have hz3 : w.heap.size + 1 + 1 < w1.heap.size := by omega
  obtain ⟨hc1, hf1⟩ := bcell hx1
  simp at hc1 hf1
  cases hR : isTabB x
  · have HF := Lib.hid (show sumS x col ln ls = (Val.zero, 14) by unfold sumS; rw [show (decide (x.kind = 5) && rightB x) = false from hR, if_pos rfl])
    clear hR hx1
    go_wp2
    rw [HF.out]
    refine bodyPost_ret (v := .tuple #[(.agg #[.int .i64 Val.zero.kind, .string Val.zero.s, .int .i64 Val.zero.dn, .int .i64 Val.zero.ds, .int .i64 Val.zero.n, .slice none Val.zero.cols.length 0, .slice none Val.zero.rows.length 0]), .int .i64 14]) (by simp [results, Tryz.results20, go_sem, hc1, Val.zero]) rfl ⟨none, 0, none, 0, rfl, ⟨Nat.le_refl _, Nat.le_refl _⟩, RV.zero, ?_⟩
    iterate 7 with_reducible refine Ext.set2 ?_ (by omega) _
    with_reducible exact HX1.out
  have HR := Lib.hid (show (decide (x.kind = 5) && rightB x) = true from hR)
  have g1 : w1.cell? ⟨w.heap.size, 5, none⟩ = some (.slice A x.cols.length c) := by rw [hc1 _ _ (by omega)]; simp [go_sem]
  have g2 : w1.cell? ⟨w.heap.size, 6, none⟩ = some (.slice B x.rows.length e) := by rw [hc1 _ _ (by omega)]; simp [go_sem]
  have bL : Blk w1 (w.heap.size + 1) 31 #[.int .i64 ln, .int .i64 ls] := by
    have := ((Blk.new (w.alloc (.cells #[.int .i64 x.kind, .string x.s, .int .i64 x.dn, .int .i64 x.ds, .int .i64 x.n, .slice A x.cols.length c, .slice B x.rows.length e] 33)) 31 #[.int .i64 ln, .int .i64 ls]).keep (Kept.alloc _ _ _)).keep (hx1.kept _)
    simpa using this
  have bR : Blk w1 (w.heap.size + 1 + 1) 33 #[.int .i64 Val.zero.kind, .string Val.zero.s, .int .i64 Val.zero.dn, .int .i64 Val.zero.ds, .int .i64 Val.zero.n, .slice none Val.zero.cols.length 0, .slice none Val.zero.rows.length 0] := by
    have := (Blk.new ((w.alloc (.cells #[.int .i64 x.kind, .string x.s, .int .i64 x.dn, .int .i64 x.ds, .int .i64 x.n, .slice A x.cols.length c, .slice B x.rows.length e] 33)).alloc (.cells #[.int .i64 ln, .int .i64 ls] 31)) 33 #[.int .i64 Val.zero.kind, .string Val.zero.s, .int .i64 Val.zero.dn, .int .i64 Val.zero.ds, .int .i64 Val.zero.n, .slice none Val.zero.cols.length 0, .slice none Val.zero.rows.length 0]).keep (hx1.kept _)
    simpa using this
  have HBL := Lib.hid bL
  have HBR := Lib.hid bR
  have HV := Lib.hid (H.out.keep (HX1.out.kept S))
  clear hx1 hc1 hf1 bL bR hR
  by_cases hk : 0 ≤ idxS x.cols col
  case neg =>
    have HF := Lib.hid (show sumS x col ln ls = (Val.zero, 13) by
      unfold sumS
      rw [HR.out, if_neg (by simp), if_pos (by omega)])
    have r0 := HBR.out.cell (i := 0) rfl
    have r1 := HBR.out.cell (i := 1) rfl
    have r2 := HBR.out.cell (i := 2) rfl
    have r3 := HBR.out.cell (i := 3) rfl
    have r4 := HBR.out.cell (i := 4) rfl
    have r5 := HBR.out.cell (i := 5) rfl
    have r6 := HBR.out.cell (i := 6) rfl
    have rf := HBR.out.frozen
    go_wp2_with (go_at_call 48; refine (r09_index _ _ _ _ _ S HV.out.strs).mono ?_; rintro e w' ⟨rfl, rfl⟩)
    rw [HF.out]
    refine bodyPost_ret (v := .tuple #[(.agg #[.int .i64 Val.zero.kind, .string Val.zero.s, .int .i64 Val.zero.dn, .int .i64 Val.zero.ds, .int .i64 Val.zero.n, .slice none Val.zero.cols.length 0, .slice none Val.zero.rows.length 0]), .int .i64 13]) (by simp [results, Tryz.results20, go_sem, r0, r1, r2, r3, r4, r5, r6, Val.zero]) rfl ⟨none, 0, none, 0, rfl, ⟨Nat.le_refl _, Nat.le_refl _⟩, RV.zero, ?_⟩
    iterate 7 with_reducible refine Ext.set2 ?_ (by omega) _
    with_reducible exact HX1.out
  obtain ⟨k, hk1, hk2, -⟩ := idxS_at hk
  have HK := Lib.hid hk1
  have HF := Lib.hid (show sumS x col ln ls = sumRows k ln ls x.rows 0 0 by
    unfold sumS
    rw [HR.out, if_neg (by simp), if_neg (by omega), hk1]
    simp)
  clear hk hk1
  go_wp2_with (go_at_call 48; refine (r09_index _ _ _ _ _ S HV.out.strs).mono ?_; rintro e w' ⟨rfl, rfl⟩; rw [HK.out])
  have G1 := Lib.hid g1
  have G2 := Lib.hid g2
  have HST := Lib.hid (Blk.new w1 31 #[.int .i64 0, .int .i64 0])
  go_loopw [11] (fun i wr => ∃ (m : Nat) (n s : Int), m ≤ x.rows.length ∧ i = .int .i64 m ∧ Ext w1 wr ∧ Blk wr w1.heap.size 31 #[.int .i64 n, .int .i64 s] ∧ sumRows k ln ls (x.rows.drop m) n s = sumRows k ln ls x.rows 0 0) (fun i _ => x.rows.length - (intOf i).toNat)
  case atStart => exact ⟨0, 0, 0, Nat.zero_le _, rfl, (Ext.refl _).alloc _, HST.out, rfl⟩
  case round =>
    clear HST g1 g2
    obtain ⟨m, n, s, hm, rfl, hext, hbs, hfr⟩ := hrel
    have gg1 := hext.cell G1.out
    have gg2 := hext.cell G2.out
    have gz1 : w.heap.size < wr.heap.size := by have := hext.size; omega
    have HFR := Lib.hid hfr
    have HE := Lib.hid hext
    have HBS := Lib.hid hbs
    have hbz := hbs.lt
    clear hfr hbs
    by_cases hlt : m < x.rows.length
    · obtain ⟨b1, o1, A2, c2, hB1, z1, p0, hcr, hrow⟩ := (HV.out.rows_.keep (hext.kept S)).at_ hlt
      subst hB1
      have hkr : k < x.rows[m].length := by
        have h9 := HR.out
        simp only [Bool.and_eq_true, decide_eq_true_eq] at h9
        have h8 := h9.2
        unfold rightB at h8
        rw [if_pos h9.1, Bool.and_eq_true] at h8
        have := tableR_row h8.1 hlt
        omega
      obtain ⟨b2, o2, A5, c5, B5, e5, rfl, z2, ⟨q0, q1, q2, q3, q4, q5, q6⟩, -, -⟩ := hrow.at_ hkr
      have hrl2 := hrow.len
      have HDR := Lib.hid (show x.rows.drop m = x.rows[m] :: x.rows.drop (m + 1) from List.drop_eq_getElem_cons hlt)
      have HGD := Lib.hid (show (x.rows[m].getD k Val.zero) = x.rows[m][k] from getD_of _ _ _ hkr)
      clear hrow hext
      by_cases hk0 : x.rows[m][k].kind = 2
      case neg =>
        have hk0' : (x.rows[m][k].kind == 2) = false := by simp [hk0]
        have HK1 := Lib.hid (show sumRows k ln ls x.rows 0 0 = (Val.zero, 14) by rw [← HFR.out, HDR.out, sumRows, HGD.out, if_pos hk0])
        clear hk0
        have hbr := HBR.out.keep (HE.out.kept _)
        have r0 := hbr.cell (i := 0) rfl
        have r1 := hbr.cell (i := 1) rfl
        have r2 := hbr.cell (i := 2) rfl
        have r3 := hbr.cell (i := 3) rfl
        have r4 := hbr.cell (i := 4) rfl
        have r5 := hbr.cell (i := 5) rfl
        have r6 := hbr.cell (i := 6) rfl
        have rf := hbr.frozen
        have hz5 := hbr.lt
        clear hbr
        go_wp2
        rw [HF.out, HK1.out]
        refine bodyPost_ret (v := .tuple #[(.agg #[.int .i64 Val.zero.kind, .string Val.zero.s, .int .i64 Val.zero.dn, .int .i64 Val.zero.ds, .int .i64 Val.zero.n, .slice none Val.zero.cols.length 0, .slice none Val.zero.rows.length 0]), .int .i64 14]) (by simp [results, Tryz.results20, go_sem, r0, r1, r2, r3, r4, r5, r6, Val.zero]) rfl ⟨none, 0, none, 0, rfl, ⟨Nat.le_refl _, Nat.le_refl _⟩, RV.zero, ?_⟩
        iterate 7 with_reducible refine Ext.set2 ?_ (by omega) _
        exact HX1.out.trans HE.out
      have hk0' : (x.rows[m][k].kind == 2) = true := by simp [hk0]
      have HK0 := Lib.hid hk0
      have s0 := HBS.out.cell (i := 0) rfl
      have s1 := HBS.out.cell (i := 1) rfl
      clear hk0
      obtain ⟨⟨⟨n2, s2⟩, ok⟩, hr2⟩ : ∃ r, r = addS n s x.rows[m][k].dn x.rows[m][k].ds := ⟨_, rfl⟩
      have HR2 := Lib.hid hr2
      clear hr2
      have i0 : (0 : Int) ≤ (m : Int) := by omega
      have i1 : (m : Int) < (x.rows.length : Int) := by omega
      have i2 : (0 : Int) ≤ (k : Int) := by omega
      obtain ⟨nr, hnr⟩ : ∃ nr, nr = x.rows[m].length := ⟨_, rfl⟩
      obtain ⟨yn, hyn⟩ : ∃ yn, yn = x.rows[m][k].dn := ⟨_, rfl⟩
      obtain ⟨ys, hys⟩ : ∃ ys, ys = x.rows[m][k].ds := ⟨_, rfl⟩
      obtain ⟨nx, hnx⟩ : ∃ nx, nx = x.rows.length := ⟨_, rfl⟩
      have i3 : (k : Int) < (nr : Int) := by omega
      rw [← hnr] at p0
      rw [← hyn] at q2
      rw [← hys] at q3
      have HYN := Lib.hid hyn
      have HYS := Lib.hid hys
      rw [← hnx] at i1
      have HR3 := Lib.hid (show addS n s yn ys = ((n2, s2), ok) by rw [hyn, hys]; exact HR2.out.symm)
      have C1 := Lib.hid p0
      have C2 := Lib.hid q2
      have C3 := Lib.hid q3
      have C4 := Lib.hid s0
      have C5 := Lib.hid s1
      rw [← hnx] at gg2
      have C6 := Lib.hid gg2
      have HNR := Lib.hid hnr
      have HNX := Lib.hid hnx
      clear hnr hyn hys
      go_upto_region 13 with fail
      rw [← hnx]
      clear hnx
      refine wp_region_chain (by kernel_rfl) (fun | 15 => [14, 15] | i => [i]) (by kernel_rfl) (LX (fun _ _ => False)) (LX.refl _) (LX.trans _) (LM [(15, [14])]) gh0 (LM.zero _) ?_
      apply Chain.pure (LX.refl _) (by rfl)
      · intro vals γ w' ρ hR hN hp hρ hc hf hg
        refine ⟨rfl, ?_⟩
        have e10 := hρ 10
        conv at e10 => rhs; whnf
        have hxx := hR.ext0 (fun _ _ h => h.elim)
        have k1 := hxx.cell C1.out
        have k2 := hxx.cell C2.out
        have k3 := hxx.cell C3.out
        have k4 := hxx.cell C4.out
        have k5 := hxx.cell C5.out
        have k6 := hxx.cell C6.out
        clear hxx
        clear hR hN hp hρ
        go_light
        go_simp
        exact ⟨rfl, rfl⟩
      · rfl
      apply Chain.pure (LX.refl _) (by rfl)
      · intro vals γ w' ρ hR hN hp hρ hc hf hg
        refine ⟨rfl, ?_⟩
        have e3 := hρ 3
        conv at e3 => rhs; whnf
        clear hR hN hp hρ
        go_light
        go_simp
        exact ⟨rfl, rfl⟩
      · rfl
      apply Chain.pure (LX.refl _) (by rfl)
      · intro vals γ w' ρ hR hN hp hρ hc hf hg
        refine ⟨rfl, ?_⟩
        have e47 : ρ (.tmp 47) = _ := (hρ 47).trans (hp 1 (by decide))
        have hxx := hR.ext0 (fun _ _ h => h.elim)
        have k1 := hxx.cell C1.out
        have k2 := hxx.cell C2.out
        have k3 := hxx.cell C3.out
        have k4 := hxx.cell C4.out
        have k5 := hxx.cell C5.out
        have k6 := hxx.cell C6.out
        clear hxx
        clear hR hN hp hρ
        go_light
        go_simp
        exact ⟨rfl, rfl⟩
      · rfl
      apply Chain.pure (LX.refl _) (by rfl)
      · intro vals γ w' ρ hR hN hp hρ hc hf hg
        refine ⟨rfl, ?_⟩
        have e11 := hρ 11
        conv at e11 => rhs; whnf
        clear hR hN hp hρ
        go_light
        go_simp
        exact ⟨rfl, rfl⟩
      · rfl
      apply Chain.pure (LX.refl _) (by rfl)
      · intro vals γ w' ρ hR hN hp hρ hc hf hg
        refine ⟨rfl, ?_⟩
        have e48 : ρ (.tmp 48) = _ := (hρ 48).trans (hp 2 (by decide))
        have e49 : ρ (.tmp 49) = _ := (hρ 49).trans (hp 3 (by decide))
        clear hR hN hp hρ
        go_light
        go_simp
        exact ⟨rfl, rfl⟩
      · rfl
      apply Chain.pure (LX.refl _) (by rfl)
      · intro vals γ w' ρ hR hN hp hρ hc hf hg
        refine ⟨rfl, ?_⟩
        have e50 : ρ (.tmp 50) = _ := (hρ 50).trans (hp 4 (by decide))
        have hxx := hR.ext0 (fun _ _ h => h.elim)
        have k1 := hxx.cell C1.out
        have k2 := hxx.cell C2.out
        have k3 := hxx.cell C3.out
        have k4 := hxx.cell C4.out
        have k5 := hxx.cell C5.out
        have k6 := hxx.cell C6.out
        clear hxx
        clear hR hN hp hρ
        go_light
        go_simp
        exact ⟨rfl, rfl⟩
      · rfl
      apply Chain.pure (LX.refl _) (by rfl)
      · intro vals γ w' ρ hR hN hp hρ hc hf hg
        refine ⟨rfl, ?_⟩
        have e9 := hρ 9
        conv at e9 => rhs; whnf
        clear hR hN hp hρ
        go_light
        go_simp
        exact ⟨rfl, rfl⟩
      · rfl
      apply Chain.pure (LX.refl _) (by rfl)
      · intro vals γ w' ρ hR hN hp hρ hc hf hg
        refine ⟨rfl, ?_⟩
        have e51 : ρ (.tmp 51) = _ := (hρ 51).trans (hp 5 (by decide))
        have e52 : ρ (.tmp 52) = _ := (hρ 52).trans (hp 6 (by decide))
        clear hR hN hp hρ
        go_light
        go_simp
        exact ⟨rfl, rfl⟩
      · rfl
      apply Chain.pure (LX.refl _) (by rfl)
      · intro vals γ w' ρ hR hN hp hρ hc hf hg
        refine ⟨rfl, ?_⟩
        have e53 : ρ (.tmp 53) = _ := (hρ 53).trans (hp 7 (by decide))
        clear hR hN hp hρ
        go_light
        go_simp
        exact ⟨rfl, rfl⟩
      · rfl
      apply Chain.pure (LX.refl _) (by rfl)
      · intro vals γ w' ρ hR hN hp hρ hc hf hg
        refine ⟨rfl, ?_⟩
        have e54 : ρ (.tmp 54) = _ := (hρ 54).trans (hp 8 (by decide))
        have hxx := hR.ext0 (fun _ _ h => h.elim)
        have k1 := hxx.cell C1.out
        have k2 := hxx.cell C2.out
        have k3 := hxx.cell C3.out
        have k4 := hxx.cell C4.out
        have k5 := hxx.cell C5.out
        have k6 := hxx.cell C6.out
        clear hxx
        clear hR hN hp hρ
        go_light
        go_simp
        exact ⟨rfl, rfl⟩
      · rfl
      refine Chain.step (FP fun v γ w' => v = .tuple #[.agg #[.int .i64 n2, .int .i64 s2], .bool ok]) (by rfl) (FP.stab ?_) ?_ ?_
      · intro v γ w1 γ' w2 r h
        exact h
      · intro vals γ w' ρ hR hN hp hρ hc hf hg
        refine ⟨rfl, ?_⟩
        have e46 : ρ (.tmp 46) = _ := (hρ 46).trans (hp 0 (by decide))
        have e55 : ρ (.tmp 55) = _ := (hρ 55).trans (hp 9 (by decide))
        have HR := Lib.hid hR
        clear hR hN hp hρ
        go_light
        go_simp
        refine (r04_Add n s yn ys w').mono ?_
        rintro e1 w3 ⟨he, hx⟩
        exact ⟨_, he, γ, LX.of_ext _ γ hx, fun _ _ _ h => h, by rw [HR3.out]; rfl⟩
      apply Chain.pure (LX.refl _) (by rfl)
      · intro vals γ w' ρ hR hN hp hρ hc hf hg
        refine ⟨rfl, ?_⟩
        have e56 : ρ (.tmp 56) = _ := (hρ 56).trans (hp 10 (by decide))
        clear hR hN hp hρ
        go_light
        go_simp
        exact ⟨rfl, rfl⟩
      · rfl
      apply Chain.pure (LX.refl _) (by rfl)
      · intro vals γ w' ρ hR hN hp hρ hc hf hg
        refine ⟨rfl, ?_⟩
        have e45 : ρ (.tmp 45) = _ := (hρ 45).trans (hp 11 (by decide))
        clear hR hN hp hρ
        go_light
        go_simp
        exact ⟨rfl, rfl⟩
      · rfl
      apply Chain.pure (LX.refl _) (by rfl)
      · intro vals γ w' ρ hR hN hp hρ hc hf hg
        refine ⟨rfl, ?_⟩
        have e45 : ρ (.tmp 45) = _ := (hρ 45).trans (hp 11 (by decide))
        clear hR hN hp hρ
        go_light
        go_simp
        exact ⟨rfl, rfl⟩
      · rfl
      refine Chain.step (FP (VarX (fun _ _ => False) 14 31 2)) (by rfl) (FP.stab VarX.stab) ?_ ?_
      · intro vals γ w' ρ hR hN hp hρ hc hf hg
        refine ⟨rfl, ?_⟩
        have HR := Lib.hid hR
        have HN := Lib.hid hN
        clear hR hN hp hρ
        go_light
        go_simp
        exact ⟨γ.put 14 (some w'.heap.size), LX.new (by decide) (HN.out.2 (by decide) ⟨15, by decide⟩) _ _, LM.made, VarX.new HR.out.inb0 rfl (fun _ _ h => h.elim)⟩
      refine Chain.step (fun vl γ w' => match vl with | [p, _] => VarXI (fun _ _ => False) 31 p #[.int .i64 n2, .int .i64 s2] γ w' | _ => True) (by rfl) ?_ ?_ ?_
      · intro l γ w1 γ' w2 rr h
        match l, h with
        | [], _ => trivial
        | [_], _ => trivial
        | [p, q], h => exact VarXI.lx rr h
        | _ :: _ :: _ :: _, _ => trivial
      · intro vals γ w' ρ hR hN hp hρ hc hf hg
        refine ⟨rfl, ?_⟩
        have e57 : ρ (.tmp 57) = _ := (hρ 57).trans (hp 12 (by decide))
        obtain ⟨g, ⟨cl⟩, hv, hcs, hb, hk, hst⟩ := VarX.stored (hp 14 (by decide)) (s := 15) (l := [(15, [14])]) (by decide) hN
        have e12 := (hρ 12).trans hv
        match cl, hcs with
        | [x0, x1], _ =>
          have HST := Lib.hid hst
          have HK := Lib.hid hk
          have HB := Lib.hid hb
          have q0 := hb.cell (i := 0) rfl
          have q1 := hb.cell (i := 1) rfl
          have qf := hb.frozen
          have ql := hb.lt
          clear hR hN hp hρ hst hk hb hv
          go_light
          go_simp
          obtain ⟨g1, g2⟩ := HST.out _ #[.int .i64 n2, .int .i64 s2] (((Only.refl g w').set 0 (.int .i64 n2)).set 1 (.int .i64 s2)) ((HB.out.set 0 (.int .i64 n2)).set 1 (.int .i64 s2)) rfl
          exact ⟨γ.put 14 none, g1, LM.done (by decide) (.inl ⟨g, HK.out⟩), g2⟩
      apply Chain.pure (LX.refl _) (by rfl)
      · intro vals γ w' ρ hR hN hp hρ hc hf hg
        refine ⟨rfl, ?_⟩
        have e58 : ρ (.tmp 58) = _ := (hρ 58).trans (hp 13 (by decide))
        clear hR hN hp hρ
        go_light
        go_simp
        exact ⟨rfl, rfl⟩
      · rfl
      intro vals γ w9 hR hG
      have v0 : vals 0 = _ := hG 0 (by decide)
      have v1 : vals 1 = _ := hG 1 (by decide)
      have v2 : vals 2 = _ := hG 2 (by decide)
      have v3 : vals 3 = _ := hG 3 (by decide)
      have v4 : vals 4 = _ := hG 4 (by decide)
      have v5 : vals 5 = _ := hG 5 (by decide)
      have v6 : vals 6 = _ := hG 6 (by decide)
      have v7 : vals 7 = _ := hG 7 (by decide)
      have v8 : vals 8 = _ := hG 8 (by decide)
      have v9 : vals 9 = _ := hG 9 (by decide)
      have v10 : vals 10 = _ := hG 10 (by decide)
      have v11 : vals 11 = _ := hG 11 (by decide)
      have v12 : vals 12 = _ := hG 12 (by decide)
      have v13 : vals 13 = _ := hG 13 (by decide)
      have v16 : vals 16 = _ := hG 16 (by decide)
      obtain ⟨g, v14, hbc, -, -⟩ := hG 15 (by decide)
      simp only [lexFrame, Act.put, List.setIfInBounds_toArray, List.set_cons_succ, List.set_cons_zero, Nat.zero_add, Nat.reduceAdd, v0, v1, v2, v3, v4, v5, v6, v7, v8, v9, v10, v11, v12, v13, v16, v14]
      have hxc : Ext wr w9 := hR.ext0 (fun _ _ h => h.elim)
      rw [HNX.out]
      clear hR hG v0 v1 v2 v3 v4 v5 v6 v7 v8 v9 v10 v11 v12 v13 v16
      · clear s0 s1 q0 q1 q2 q3 q4 q5 q6 p0 hk0' gg1 gg2 gz1
        have HSR := Lib.hid (show sumRows k ln ls x.rows 0 0 = if (addS n s x.rows[m][k].dn x.rows[m][k].ds).2 = false then (Val.zero, 3)
            else if cmpI (mu (addS n s x.rows[m][k].dn x.rows[m][k].ds).1.1 (addS n s x.rows[m][k].dn x.rows[m][k].ds).1.2) (mu ln ls) < 0 then (Val.zero, 20)
            else sumRows k ln ls (x.rows.drop (m + 1)) (addS n s x.rows[m][k].dn x.rows[m][k].ds).1.1 (addS n s x.rows[m][k].dn x.rows[m][k].ds).1.2 by
          rw [← HFR.out, HDR.out, sumRows, HGD.out, if_neg (by rw [HK0.out]; simp)])
        rw [← HR2.out] at HSR
        have HX3 := Lib.hid (HE.out.trans hxc)
        have hsz3 := hxc.size
        have HBS3 := Lib.hid (HBS.out.keep (hxc.kept _))
        have HNB := Lib.hid hbc
        have n0 := hbc.cell (i := 0) rfl
        have n1 := hbc.cell (i := 1) rfl
        have hnz := hbc.lt
        clear hxc hbc
        cases ok
        · have HK1 := Lib.hid (show sumRows k ln ls x.rows 0 0 = (Val.zero, 3) by rw [HSR.out, if_pos rfl])
          have hbr := HBR.out.keep (HX3.out.kept _)
          have r0 := hbr.cell (i := 0) rfl
          have r1 := hbr.cell (i := 1) rfl
          have r2 := hbr.cell (i := 2) rfl
          have r3 := hbr.cell (i := 3) rfl
          have r4 := hbr.cell (i := 4) rfl
          have r5 := hbr.cell (i := 5) rfl
          have r6 := hbr.cell (i := 6) rfl
          have rf := hbr.frozen
          have hz5 := hbr.lt
          clear hbr
          go_wp2
          rw [HF.out, HK1.out]
          refine bodyPost_ret (v := .tuple #[(.agg #[.int .i64 Val.zero.kind, .string Val.zero.s, .int .i64 Val.zero.dn, .int .i64 Val.zero.ds, .int .i64 Val.zero.n, .slice none Val.zero.cols.length 0, .slice none Val.zero.rows.length 0]), .int .i64 3]) (by simp [results, Tryz.results20, go_sem, r0, r1, r2, r3, r4, r5, r6, Val.zero]) rfl ⟨none, 0, none, 0, rfl, ⟨Nat.le_refl _, Nat.le_refl _⟩, RV.mk (Nat.zero_le _) Strs.nil Rows.nil, ?_⟩
          iterate 7 with_reducible refine Ext.set2 ?_ (by omega) _
          exact HX1.out.trans HX3.out
        · have hbl := HBL.out.keep (HX3.out.kept _)
          have l0 := hbl.cell (i := 0) rfl
          have l1 := hbl.cell (i := 1) rfl
          have hlz := hbl.lt
          clear hbl
          go_wp2_with fail
          refine (r04_Cmp n2 s2 ln ls _).mono ?_
          rintro e1 w4 ⟨rfl, hx4⟩
          have HX4 := Lib.hid (HX3.out.trans hx4)
          have HX4' := Lib.hid hx4
          clear n0 n1 hnz
          have hnb := HNB.out.keep (hx4.kept _)
          have n0 := hnb.cell (i := 0) rfl
          have n1 := hnb.cell (i := 1) rfl
          have hnz := hnb.lt
          clear hx4 l0 l1 hlz hnb
          by_cases hcm : cmpI (mu n2 s2) (mu ln ls) < 0
          · have HK1 := Lib.hid (show sumRows k ln ls x.rows 0 0 = (Val.zero, 20) by rw [HSR.out, if_neg (by simp), if_pos hcm])
            generalize cmpI (mu n2 s2) (mu ln ls) = cv at *
            have hbr := HBR.out.keep (HX4.out.kept _)
            have r0 := hbr.cell (i := 0) rfl
            have r1 := hbr.cell (i := 1) rfl
            have r2 := hbr.cell (i := 2) rfl
            have r3 := hbr.cell (i := 3) rfl
            have r4 := hbr.cell (i := 4) rfl
            have r5 := hbr.cell (i := 5) rfl
            have r6 := hbr.cell (i := 6) rfl
            have rf := hbr.frozen
            have hz5 := hbr.lt
            clear hbr
            go_wp2
            rw [HF.out, HK1.out]
            refine bodyPost_ret (v := .tuple #[(.agg #[.int .i64 Val.zero.kind, .string Val.zero.s, .int .i64 Val.zero.dn, .int .i64 Val.zero.ds, .int .i64 Val.zero.n, .slice none Val.zero.cols.length 0, .slice none Val.zero.rows.length 0]), .int .i64 20]) (by simp [results, Tryz.results20, go_sem, r0, r1, r2, r3, r4, r5, r6, Val.zero]) rfl ⟨none, 0, none, 0, rfl, ⟨Nat.le_refl _, Nat.le_refl _⟩, RV.mk (Nat.zero_le _) Strs.nil Rows.nil, ?_⟩
            iterate 7 with_reducible refine Ext.set2 ?_ (by omega) _
            exact HX1.out.trans HX4.out
          · have HK1 := Lib.hid (show sumRows k ln ls (x.rows.drop (m + 1)) n2 s2 = sumRows k ln ls x.rows 0 0 by rw [HSR.out, if_neg (by simp), if_neg hcm])
            generalize cmpI (mu n2 s2) (mu ln ls) = cv at *
            have HBS4 := Lib.hid (HBS3.out.keep (HX4'.out.kept _))
            have hsz4 := HX4'.out.size
            have s0 := HBS4.out.cell (i := 0) rfl
            have s1 := HBS4.out.cell (i := 1) rfl
            have sf := HBS4.out.frozen
            have sz := HBS4.out.lt
            go_wp2
            go_roundw
            case rel =>
              refine ⟨m + 1, n2, s2, by omega, by go_num, ?_, ?_, HK1.out⟩
              · iterate 2 with_reducible refine Ext.set2 ?_ (by omega) _
                exact HX4.out
              · have := (HBS4.out.set 0 (.int .i64 n2)).set 1 (.int .i64 s2)
                simpa using this
            case measure => simp [intOf]; omega
    · have HK1 := Lib.hid (show sumRows k ln ls x.rows 0 0 = (numV n s, 0) by rw [← HFR.out, List.drop_eq_nil_of_le (by omega)]; rfl)
      have s0 := HBS.out.cell (i := 0) rfl
      have s1 := HBS.out.cell (i := 1) rfl
      have sf := HBS.out.frozen
      clear hext
      have hbr := HBR.out.keep (HE.out.kept _)
      have r0 := hbr.cell (i := 0) rfl
      have r1 := hbr.cell (i := 1) rfl
      have r2 := hbr.cell (i := 2) rfl
      have r3 := hbr.cell (i := 3) rfl
      have r4 := hbr.cell (i := 4) rfl
      have r5 := hbr.cell (i := 5) rfl
      have r6 := hbr.cell (i := 6) rfl
      have rf := hbr.frozen
      have hz5 := hbr.lt
      clear hbr
      go_wp2
      rw [HF.out, HK1.out]
      refine bodyPost_ret (v := .tuple #[.agg #[.int .i64 2, .string ⟨#[]⟩, .int .i64 n, .int .i64 s, .int .i64 0, .slice none 0 0, .slice none 0 0], .int .i64 0]) (by simp [results, Tryz.results20, go_sem, r0, r1, r2, r3, r4, r5, r6, Val.zero]) rfl ⟨none, 0, none, 0, rfl, ⟨Nat.le_refl _, Nat.le_refl _⟩, RV.mk (Nat.zero_le _) Strs.nil Rows.nil, ?_⟩
      iterate 7 with_reducible refine Ext.set2 ?_ (by omega) _
      exact HX1.out.trans HE.out
end Go.Proofs.YtcmmkeiiapbgcaaGreatDoor
/- The law TableSums: true. Conditions: the arguments read as data; the table of tens is there. -/
namespace Go.Proofs.YtcmmkeiiapbgcaaGreatDoor
open Go Go.RowKit
def vSm4 (_gt : Nat) (_gq : Nat) (t : Look) (tv : Val) (At : Option Addr) (ct : Nat) (Bt : Option Addr) (et : Nat) (q0 : Int) (q1 : Int) (q2 : Int) : Nat → Value
  | 0 => (.agg #[.string t.name, .slice At t.cols.length ct, .slice Bt t.rows.length et])
  | 1 => (.agg #[.int .i64 tv.kind, .string tv.s, .int .i64 tv.dn, .int .i64 tv.ds, .int .i64 tv.n, .slice At tv.cols.length ct, .slice Bt tv.rows.length et])
  | 2 => (.agg #[.string t.name, .slice At t.cols.length ct, .slice Bt t.rows.length et])
  | 3 => .agg #[.int .i64 q0, .int .i64 q1, .int .i64 q2]
  | 7 => .int .i64 2
  | 8 => .int .i64 0
  | _ => undef
def gSm4 (gt : Nat) (gq : Nat) (t : Look) (tv : Val) (At : Option Addr) (ct : Nat) (Bt : Option Addr) (et : Nat) (q0 : Int) (q1 : Int) (q2 : Int) (ix : Nat) (vl : List Value) (γ : Gh) (w' : World) : Prop := match vl with
  | [v] => if ix = 4 then (∃ (t' : Look) (A' : Option Addr) (c' : Nat) (B' : Option Addr) (e' : Nat), v = (.agg #[.string t'.name, .slice A' t'.cols.length c', .slice B' t'.rows.length e']) ∧ ((t'.cols.length ≤ c' ∧ t'.rows.length ≤ e') ∧ RL w' (Free γ) 2 t' A' B')) else if ix = 5 then (∃ (x' : Val) (A' : Option Addr) (c' : Nat) (B' : Option Addr) (e' : Nat), v = (.agg #[.int .i64 x'.kind, .string x'.s, .int .i64 x'.dn, .int .i64 x'.ds, .int .i64 x'.n, .slice A' x'.cols.length c', .slice B' x'.rows.length e']) ∧ ((x'.cols.length ≤ c' ∧ x'.rows.length ≤ e') ∧ RV w' (Free γ) 2 x' A' B')) else if ix = 6 then (∃ (g : Nat) (x' : Val) (A' : Option Addr) (c' : Nat) (B' : Option Addr) (e' : Nat), v = .slice (some ⟨g, 0, none⟩) 2 2 ∧ (Blk w' g 33 #[.int .i64 tv.kind, .string tv.s, .int .i64 tv.dn, .int .i64 tv.ds, .int .i64 tv.n, .slice At tv.cols.length ct, .slice Bt tv.rows.length et, .int .i64 x'.kind, .string x'.s, .int .i64 x'.dn, .int .i64 x'.ds, .int .i64 x'.n, .slice A' x'.cols.length c', .slice B' x'.rows.length e'] ∧ Free γ g) ∧ ((x'.cols.length ≤ c' ∧ x'.rows.length ≤ e') ∧ RV w' (Free γ) 2 x' A' B')) else v = vSm4 gt gq t tv At ct Bt et q0 q1 q2 ix
  | _ => True
theorem gSm4_st (gt : Nat) (gq : Nat) (t : Look) (tv : Val) (At : Option Addr) (ct : Nat) (Bt : Option Addr) (et : Nat) (q0 : Int) (q1 : Int) (q2 : Int) : ∀ ix vl γ w γ' w', LR γ w γ' w' → gSm4 gt gq t tv At ct Bt et q0 q1 q2 ix vl γ w → gSm4 gt gq t tv At ct Bt et q0 q1 q2 ix vl γ' w' := by
  intro ix vl γ w γ' w' r h
  match vl, h with
  | [v], h =>
    unfold gSm4 at h ⊢
    by_cases h4 : ix = 4
    · simp only [if_pos h4] at h ⊢
      obtain ⟨t', A', c', B', e', h0, h1, h2⟩ := h
      exact ⟨t', A', c', B', e', h0, h1, ⟨h2.1, r.strs h2.2.1, r.rows h2.2.2⟩⟩
    simp only [if_neg h4] at h ⊢
    by_cases h5 : ix = 5
    · simp only [if_pos h5] at h ⊢
      obtain ⟨x', A', c', B', e', h0, h1, h2⟩ := h
      exact ⟨x', A', c', B', e', h0, h1, r.rv h2⟩
    simp only [if_neg h5] at h ⊢
    by_cases h6 : ix = 6
    · simp only [if_pos h6] at h ⊢
      obtain ⟨g, x', A', c', B', e', h0, ⟨h3, h4⟩, h1, h2⟩ := h
      exact ⟨g, x', A', c', B', e', h0, ⟨r.blk h4 h3, r.free h3.lt h4⟩, h1, r.rv h2⟩
    simp only [if_neg h6] at h ⊢
    exact h
  | [], _ => trivial
  | _ :: _ :: _, _ => trivial
set_option maxRecDepth 100000 in
set_option maxHeartbeats 8000000 in
theorem law_Sums (l : List Int) (q0 q1 q2 r0 r1 r2 : Int) (A : Option Addr) (c : Nat) (w : World) (S : Nat → Prop) (ht : Tens w) (hl : IntsL w S A l) :
    Calls Tryz.prog 4 #[.slice A l.length c, .agg #[.int .i64 q0, .int .i64 q1, .int .i64 q2], .agg #[.int .i64 r0, .int .i64 r1, .int .i64 r2]] w (RetB w true) := by
  have HT := Lib.hid ht
  have HL := Lib.hid hl
  obtain ⟨tm, htm⟩ : ∃ tm, tm = r2.tmod 4 := ⟨_, rfl⟩
  have htb : -4 < tm ∧ tm < 4 := by rw [htm]; exact ⟨Int.lt_tmod_of_pos _ (by decide), Int.tmod_lt_of_pos _ (by decide)⟩
  have HTM := Lib.hid htm.symm
  obtain ⟨W0, hW0⟩ : ∃ W0, W0 = (w.alloc (.cells #[.int .i64 q0, .int .i64 q1, .int .i64 q2] 23)).alloc (.cells #[.int .i64 r0, .int .i64 r1, .int .i64 r2] 23) := ⟨_, rfl⟩
  have HW0 := Lib.hid hW0
  have HX0 := Lib.hid (show Ext w W0 by rw [hW0]; exact ((Ext.refl w).alloc _).alloc _)
  have HGQ0 := Lib.hid (show Blk W0 w.heap.size 23 #[.int .i64 q0, .int .i64 q1, .int .i64 q2] by rw [hW0]; exact (Blk.new _ _ _).keep (Kept.alloc _ _ _))
  have HGR0 := Lib.hid (show Blk W0 (w.heap.size + 1) 23 #[.int .i64 r0, .int .i64 r1, .int .i64 r2] by
    rw [hW0]
    have := Blk.new (w.alloc (.cells #[.int .i64 q0, .int .i64 q1, .int .i64 q2] 23)) 23 #[.int .i64 r0, .int .i64 r1, .int .i64 r2]
    simpa using this)
  clear ht hl hW0 htm
  go_enter Tryz.func4, Tryz.ntmps4
  go_wp2_with fail
  rw [← HW0.out]
  refine (law_sanity W0 (HT.out.ext HX0.out)).mono ?_
  rintro e1 w1 ⟨rfl, hx1⟩
  have HX1 := Lib.hid (HX0.out.trans hx1)
  have HGQ1 := Lib.hid (HGQ0.out.keep (hx1.kept _))
  have HGR1 := Lib.hid (HGR0.out.keep (hx1.kept _))
  clear hx1 HGQ0 HGR0 HX0 HW0
  go_wp2_with fail
  refine (r09_Made ⟨#[116]⟩ l A c _ S (HL.out.keep (HX1.out.kept _)) (by decide)).mono ?_
  rintro e2 w2 ⟨t, hmt, At, ct, Bt, et, rfl, ⟨hct, het⟩, hrl, hx2⟩
  have HMT := Lib.hid hmt
  have HCT := Lib.hid hct
  have HET := Lib.hid het
  have HX2 := Lib.hid (HX1.out.trans hx2)
  have HRL0 := Lib.hid (hrl.up (d' := 2) (by omega))
  have HGQ2 := Lib.hid (HGQ1.out.keep (hx2.kept _))
  have HGR2 := Lib.hid (HGR1.out.keep (hx2.kept _))
  obtain ⟨gq, hgq⟩ : ∃ gq, gq = w.heap.size := ⟨_, rfl⟩
  obtain ⟨gr, hgr⟩ : ∃ gr, gr = w.heap.size + 1 := ⟨_, rfl⟩
  have HGQE := Lib.hid hgq
  have HGRE := Lib.hid hgr
  rw [← hgq] at HGQ2
  rw [← hgr] at HGR2
  obtain ⟨w4, hw4⟩ : ∃ w4, w4 = (w2.alloc (.cells #[.string t.name, .slice At t.cols.length ct, .slice Bt t.rows.length et] 28)).alloc (.cells #[.int .i64 r1, .int .i64 (tm % 4)] 31) := ⟨_, rfl⟩
  obtain ⟨gt, hgt⟩ : ∃ gt, gt = w2.heap.size := ⟨_, rfl⟩
  obtain ⟨gd, hgd⟩ : ∃ gd, gd = w2.heap.size + 1 := ⟨_, rfl⟩
  have hx24 : Ext w2 w4 := by rw [hw4]; exact ((Ext.refl _).alloc _).alloc _
  have HX4 := Lib.hid (HX2.out.trans hx24)
  have HGT := Lib.hid (show Blk w4 gt 28 #[.string t.name, .slice At t.cols.length ct, .slice Bt t.rows.length et] by rw [hw4, hgt]; exact (Blk.new _ _ _).keep (Kept.alloc _ _ _))
  have HGD := Lib.hid (show Blk w4 gd 31 #[.int .i64 r1, .int .i64 (tm % 4)] by
    rw [hw4, hgd]
    have := Blk.new (w2.alloc (.cells #[.string t.name, .slice At t.cols.length ct, .slice Bt t.rows.length et] 28)) 31 #[.int .i64 r1, .int .i64 (tm % 4)]
    simpa using this)
  have HRL := Lib.hid (HRL0.out.keep (hx24.kept _))
  have HGQ := Lib.hid (HGQ2.out.keep (hx24.kept _))
  have HGR := Lib.hid (HGR2.out.keep (hx24.kept _))
  have HW4 := Lib.hid hw4
  have HGTE := Lib.hid hgt
  have HGDE := Lib.hid hgd
  have HOK := Lib.hid (made_ok HMT.out)
  have m0 := HGR2.out.cell (i := 0) rfl
  have m1 := HGR2.out.cell (i := 1) rfl
  have m2 := HGR2.out.cell (i := 2) rfl
  have mz := HGR2.out.lt
  rw [hgr] at m0 m1 m2 mz
  obtain ⟨tv, htv⟩ : ∃ tv, tv = tabV t.cols t.rows := ⟨_, rfl⟩
  have HTV := Lib.hid htv
  have htm := HTM.out
  clear hmt hct het hrl hx2 hx24 HGQ1 HGR1 HX1 HX2 hw4 hgt hgd hgq hgr HRL0 HGQ2 HGR2 htv
  go_upto_region 4 with fail
  rw [show (tm + 4) % 4 = tm % 4 by omega, ← HW4.out, ← HGDE.out, ← HGTE.out]
  rw [← HGRE.out, ← HGQE.out]
  clear m0 m1 m2 mz htm HW4
  refine wp_region_lin_lit (by kernel_rfl) (fun i => [i]) (by kernel_rfl) LR LR.refl LR.trans (LN (al0)) (gSm4 gt gq t tv At ct Bt et q0 q1 q2) (gSm4_st _ _ _ _ _ _ _ _ _ _ _) gh0 (LN.zero _) ⟨?_, ?_, ?_, ?_, ?_, ?_, ?_, ?_, ?_, trivial⟩ ?_
  · refine LinStep.yes fun vals γ w' ρ hR hN hp hρ hc hf hg => ⟨rfl, ?_⟩
    have e8 : ρ (.tmp 8) = .pointer (some ⟨gt, 0, none⟩) := hρ 8
    have hx := hR.drew_ext
    have c0 := (HGT.out.keep (hx.kept _)).cell (i := 0) rfl
    have c1 := (HGT.out.keep (hx.kept _)).cell (i := 1) rfl
    have c2 := (HGT.out.keep (hx.kept _)).cell (i := 2) rfl
    have HR := Lib.hid hR
    have HN := Lib.hid hN
    clear hR hN hp hρ hx
    go_light
    go_simp
    exact ⟨γ, LR.refl _ _, fun _ _ _ h => h, rfl⟩
  · refine LinStep.yes fun vals γ w' ρ hR hN hp hρ hc hf hg => ⟨rfl, ?_⟩
    have e31 : ρ (.tmp 31) = (.agg #[.string t.name, .slice At t.cols.length ct, .slice Bt t.rows.length et]) := (hρ 31).trans (hp 0 (by decide))
    have hx := hR.drew_ext
    have HR := Lib.hid hR
    have HN := Lib.hid hN
    clear hR hN hp hρ hx
    go_light
    go_simp
    refine (r09_Value t tv HTV.out At Bt ct et w').mono ?_
    rintro e' w3 ⟨he, hx⟩
    exact ⟨_, he, γ, LR.of_ext γ hx, fun _ _ _ h => h, rfl⟩
  · refine LinStep.yes fun vals γ w' ρ hR hN hp hρ hc hf hg => ⟨rfl, ?_⟩
    have e8 : ρ (.tmp 8) = .pointer (some ⟨gt, 0, none⟩) := hρ 8
    have hx := hR.drew_ext
    have c0 := (HGT.out.keep (hx.kept _)).cell (i := 0) rfl
    have c1 := (HGT.out.keep (hx.kept _)).cell (i := 1) rfl
    have c2 := (HGT.out.keep (hx.kept _)).cell (i := 2) rfl
    have HR := Lib.hid hR
    have HN := Lib.hid hN
    clear hR hN hp hρ hx
    go_light
    go_simp
    exact ⟨γ, LR.refl _ _, fun _ _ _ h => h, rfl⟩
  · refine LinStep.yes fun vals γ w' ρ hR hN hp hρ hc hf hg => ⟨rfl, ?_⟩
    have e4 : ρ (.tmp 4) = .pointer (some ⟨gq, 0, none⟩) := hρ 4
    have hx := hR.drew_ext
    have c0 := (HGQ.out.keep (hx.kept _)).cell (i := 0) rfl
    have c1 := (HGQ.out.keep (hx.kept _)).cell (i := 1) rfl
    have c2 := (HGQ.out.keep (hx.kept _)).cell (i := 2) rfl
    have HR := Lib.hid hR
    have HN := Lib.hid hN
    clear hR hN hp hρ hx
    go_light
    go_simp
    exact ⟨γ, LR.refl _ _, fun _ _ _ h => h, rfl⟩
  · refine LinStep.yes fun vals γ w' ρ hR hN hp hρ hc hf hg => ⟨rfl, ?_⟩
    have e33 : ρ (.tmp 33) = (.agg #[.string t.name, .slice At t.cols.length ct, .slice Bt t.rows.length et]) := (hρ 33).trans (hp 2 (by decide))
    have e34 : ρ (.tmp 34) = .agg #[.int .i64 q0, .int .i64 q1, .int .i64 q2] := (hρ 34).trans (hp 3 (by decide))
    have hx := hR.drew_ext
    have HR := Lib.hid hR
    have HN := Lib.hid hN
    clear hR hN hp hρ hx
    go_light
    go_simp
    refine (r09_Odd t At Bt ct et q0 q1 q2 w' _ (HRL.out.keep (HR.out.drew_ext.kept _)) HOK.out).mono ?_
    rintro e' w3 ⟨t', A', c', B', e1, he, hcp, hrl, hx⟩
    exact ⟨_, he, γ, LR.of_ext γ hx, fun _ _ _ h => h, t', A', c', B', e1, rfl, hcp, hrl.mono fun b _ hb => fun ⟨k', hk'⟩ => by have := HR.out.inb0 k' _ hk'; unfold Fresh at hb; omega⟩
  · refine LinStep.yes fun vals γ w' ρ hR hN hp hρ hc hf hg => ⟨rfl, ?_⟩
    obtain ⟨t', A', c', B', e', g3, hcp, hrl⟩ := hp 4 (by decide)
    have e35 : ρ (.tmp 35) = _ := (hρ 35).trans g3
    have HRL' := Lib.hid hrl
    clear g3 hrl
    have hx := hR.drew_ext
    have HR := Lib.hid hR
    have HN := Lib.hid hN
    clear hR hN hp hρ hx
    go_light
    go_simp
    refine (r09_Value t' _ rfl A' B' c' e' w').mono ?_
    rintro e9 w3 ⟨he, hx⟩
    have hlr := LR.of_ext γ hx
    exact ⟨_, he, γ, hlr, fun _ _ _ h => h, tabV t'.cols t'.rows, A', c', B', e', rfl, hcp, hlr.rv HRL'.out.val⟩
  · refine LinStep.yes fun vals γ w' ρ hR hN hp hρ hc hf hg => ⟨rfl, ?_⟩
    have e32 : ρ (.tmp 32) = (.agg #[.int .i64 tv.kind, .string tv.s, .int .i64 tv.dn, .int .i64 tv.ds, .int .i64 tv.n, .slice At tv.cols.length ct, .slice Bt tv.rows.length et]) := (hρ 32).trans (hp 1 (by decide))
    obtain ⟨x', A', c', B', e', g3, hcp, hrl⟩ := hp 5 (by decide)
    have e36 : ρ (.tmp 36) = _ := (hρ 36).trans g3
    have HRL' := Lib.hid hrl
    clear g3 hrl
    have hx := hR.drew_ext
    have HR := Lib.hid hR
    have HN := Lib.hid hN
    clear hR hN hp hρ hx
    go_light
    go_simp
    have hlr := LR.of_ext γ ((Ext.refl w').alloc (.cells #[.int .i64 tv.kind, .string tv.s, .int .i64 tv.dn, .int .i64 tv.ds, .int .i64 tv.n, .slice At tv.cols.length ct, .slice Bt tv.rows.length et, .int .i64 x'.kind, .string x'.s, .int .i64 x'.dn, .int .i64 x'.ds, .int .i64 x'.n, .slice A' x'.cols.length c', .slice B' x'.rows.length e'] 33))
    exact ⟨γ, hlr, fun _ _ _ h => h, _, x', A', c', B', e', rfl, ⟨Blk.new _ _ _, fun ⟨k', hk'⟩ => by have := HR.out.inb0 k' _ hk'; omega⟩, hcp, hlr.rv HRL'.out⟩
  · refine LinStep.yes fun vals γ w' ρ hR hN hp hρ hc hf hg => ⟨rfl, ?_⟩
    obtain ⟨g, x', A', c', B', e', g4, -⟩ := hp 6 (by decide)
    have e37 : ρ (.tmp 37) = _ := (hρ 37).trans g4
    clear g4
    have hx := hR.drew_ext
    have HR := Lib.hid hR
    have HN := Lib.hid hN
    clear hR hN hp hρ hx
    go_light
    go_simp
    exact ⟨γ, LR.refl _ _, fun _ _ _ h => h, rfl⟩
  · refine LinStep.yes fun vals γ w' ρ hR hN hp hρ hc hf hg => ⟨rfl, ?_⟩
    have hx := hR.drew_ext
    have HR := Lib.hid hR
    have HN := Lib.hid hN
    clear hR hN hp hρ hx
    go_light
    go_simp
    exact ⟨γ, LR.refl _ _, fun _ _ _ h => h, rfl⟩
  · intro vals γ w7 hR hG
    obtain ⟨g, x', A', c', B', e', hv6, ⟨hbk, -⟩, hcp, hrv'⟩ := hG 6 (by decide)
    have h7 : vals 7 = .int .i64 2 := hG 7 (by decide)
    have h8 : vals 8 = .int .i64 0 := hG 8 (by decide)
    have hx7 := hR.drew_ext
    have HX7 := Lib.hid (HX4.out.trans hx7)
    have HGR7 := Lib.hid (HGR.out.keep (hx7.kept _))
    have HGD7 := Lib.hid (HGD.out.keep (hx7.kept _))
    have HXX := Lib.hid (show ∀ k, k < 2 → ∃ (x : Val) (A : Option Addr) (c : Nat) (B : Option Addr) (e : Nat), (w7.cell? ⟨g, k * 7, none⟩ = some (.int .i64 x.kind) ∧ w7.cell? ⟨g, k * 7 + 1, none⟩ = some (.string x.s) ∧ w7.cell? ⟨g, k * 7 + 2, none⟩ = some (.int .i64 x.dn) ∧ w7.cell? ⟨g, k * 7 + 3, none⟩ = some (.int .i64 x.ds) ∧ w7.cell? ⟨g, k * 7 + 4, none⟩ = some (.int .i64 x.n) ∧ w7.cell? ⟨g, k * 7 + 5, none⟩ = some (.slice A x.cols.length c) ∧ w7.cell? ⟨g, k * 7 + 6, none⟩ = some (.slice B x.rows.length e)) ∧ x.cols.length ≤ c ∧ RV w7 (fun _ => True) 2 x A B by
      intro k hk
      match k, hk with
      | 0, _ => exact ⟨tv, At, ct, Bt, et, ⟨hbk.cell rfl, hbk.cell rfl, hbk.cell rfl, hbk.cell rfl, hbk.cell rfl, hbk.cell rfl, hbk.cell rfl⟩, by rw [HTV.out]; exact HCT.out, by rw [HTV.out]; exact ((HRL.out.keep (hx7.kept _)).mono fun _ _ _ => trivial).val⟩
      | 1, _ => exact ⟨x', A', c', B', e', ⟨hbk.cell rfl, hbk.cell rfl, hbk.cell rfl, hbk.cell rfl, hbk.cell rfl, hbk.cell rfl, hbk.cell rfl⟩, hcp.1, hrv'.mono fun _ _ _ => trivial⟩
      | n + 2, h => omega)
    have HGZ := Lib.hid hbk.lt
    clear hR hG hbk hrv' hx7 hcp HGQ HRL HGT HOK HGR HGD
    simp only [lexFrame, Act.put, List.setIfInBounds_toArray, List.set_cons_succ, List.set_cons_zero, Nat.zero_add, Nat.reduceAdd, hv6, h7, h8]
    generalize vals 0 = u20, vals 1 = u21, vals 2 = u22, vals 3 = u23, vals 4 = u24, vals 5 = u25
    clear hv6 h7 h8
    go_wp2
    go_loopw [39] (fun i wr => ∃ (k : Nat), k ≤ 2 ∧ i = .int .i64 k ∧ Ext w7 wr) (fun i _ => 2 - (intOf i).toNat)
    case atStart => exact ⟨0, Nat.zero_le _, rfl, Ext.refl _⟩
    case round =>
      obtain ⟨k, hk, rfl, hext⟩ := hrel
      have HE := Lib.hid hext
      clear hext
      by_cases hlt : k < 2
      · obtain ⟨x, A, c, B, e, ⟨y0, y1, y2, y3, y4, y5, y6⟩, hcx, hrx⟩ := HXX.out k hlt
        have z0 := HE.out.cell y0
        have z1 := HE.out.cell y1
        have z2 := HE.out.cell y2
        have z3 := HE.out.cell y3
        have z4 := HE.out.cell y4
        have z5 := HE.out.cell y5
        have z6 := HE.out.cell y6
        have zz : g < wr.heap.size := Nat.lt_of_lt_of_le HGZ.out HE.out.size
        have i0 : (0 : Int) ≤ (k : Int) := by omega
        have i1 : (k : Int) < 2 := by omega
        have HCX := Lib.hid hcx
        have HRX := Lib.hid (hrx.keep (HE.out.kept _))
        have m0 := (HGR7.out.keep (HE.out.kept _)).cell (i := 0) rfl
        have mz := (HGR7.out.keep (HE.out.kept _)).lt
        obtain ⟨wx, hwx⟩ : ∃ wx, wx = wr.alloc (.cells #[.int .i64 x.kind, .string x.s, .int .i64 x.dn, .int .i64 x.ds, .int .i64 x.n, .slice A x.cols.length c, .slice B x.rows.length e] 33) := ⟨_, rfl⟩
        obtain ⟨gx, hgx⟩ : ∃ gx, gx = wr.heap.size := ⟨_, rfl⟩
        have hxx : Ext wr wx := by rw [hwx]; exact (Ext.refl _).alloc _
        have HWX := Lib.hid hwx
        have HGXE := Lib.hid hgx
        have HGX := Lib.hid (show Blk wx gx 33 #[.int .i64 x.kind, .string x.s, .int .i64 x.dn, .int .i64 x.ds, .int .i64 x.n, .slice A x.cols.length c, .slice B x.rows.length e] by rw [hwx, hgx]; exact Blk.new _ _ _)
        have HRXX := Lib.hid (HRX.out.keep (hxx.kept _))
        have HEX := Lib.hid (HE.out.trans hxx)
        clear y0 y1 y2 y3 y4 y5 y6 hcx hrx hwx hgx hxx HRX
        go_wp2_with fail
        rw [← HWX.out, ← HGXE.out]
        clear z0 z1 z2 z3 z4 z5 z6 zz m0 mz HWX
        refine (law_names r0 wx).mono ?_
        rintro e5 w8 ⟨rfl, hx8⟩
        obtain ⟨w9, hw9⟩ : ∃ w9, w9 = w8.alloc (.cells #[.string (nameS r0), .string ⟨#[122, 105, 112]⟩] 9) := ⟨_, rfl⟩
        obtain ⟨gn, hgn⟩ : ∃ gn, gn = w8.heap.size := ⟨_, rfl⟩
        have hx9 : Ext wx w9 := hx8.trans (by rw [hw9]; exact (Ext.refl _).alloc _)
        have HNN := Lib.hid (show ∀ k, k < 2 → ∃ nm, w9.cell? ⟨gn, k, none⟩ = some (.string nm) by
          have hb : Blk w9 gn 9 #[.string (nameS r0), .string ⟨#[122, 105, 112]⟩] := by rw [hw9, hgn]; exact Blk.new _ _ _
          intro k hk
          match k, hk with
          | 0, _ => exact ⟨_, hb.cell rfl⟩
          | 1, _ => exact ⟨_, hb.cell rfl⟩
          | n + 2, h => omega)
        have HNZ := Lib.hid (show gn < w9.heap.size by rw [hw9, hgn]; simp)
        have HGX9 := Lib.hid (HGX.out.keep (hx9.kept _))
        have HRX9 := Lib.hid (HRXX.out.keep (hx9.kept _))
        have HE9 := Lib.hid (HEX.out.trans hx9)
        have HGD9 := Lib.hid (HGD7.out.keep ((HEX.out.trans hx9).kept _))
        have HW9 := Lib.hid hw9
        have HGNE := Lib.hid hgn
        clear hx8 hw9 hgn hx9 HGX HRXX HEX
        go_wp2
        rw [← HW9.out, ← HGNE.out]
        clear HW9
        go_loopw [48] (fun i wr => ∃ (k : Nat), k ≤ 2 ∧ i = .int .i64 k ∧ Ext w9 wr) (fun i _ => 2 - (intOf i).toNat)
        case atStart => exact ⟨0, Nat.zero_le _, rfl, Ext.refl _⟩
        case round =>
          obtain ⟨j, hj, rfl, hext2⟩ := hrel
          have HE2 := Lib.hid hext2
          clear hext2
          by_cases hltj : j < 2
          · obtain ⟨nm, hnm⟩ := HNN.out j hltj
            have z0 := HE2.out.cell hnm
            have zz : gn < wr.heap.size := Nat.lt_of_lt_of_le HNZ.out HE2.out.size
            have j0 : (0 : Int) ≤ (j : Int) := by omega
            have j1 : (j : Int) < 2 := by omega
            have HDD := Lib.hid (HGD9.out.keep (HE2.out.kept _))
            have d0 := HDD.out.cell (i := 0) rfl
            have d1 := HDD.out.cell (i := 1) rfl
            have dz := HDD.out.lt
            obtain ⟨ls, hls⟩ : ∃ ls, ls = tm % 4 := ⟨_, rfl⟩
            rw [← hls] at d1
            have HLS := Lib.hid hls
            obtain ⟨wd, hwd⟩ : ∃ wd, wd = wr.alloc (.cells #[.int .i64 r1, .int .i64 ls, .int .i64 (-1000000000000000), .int .i64 0, .int .i64 (-25), .int .i64 1] 31) := ⟨_, rfl⟩
            obtain ⟨gs, hgs⟩ : ∃ gs, gs = wr.heap.size := ⟨_, rfl⟩
            have hxd : Ext wr wd := by rw [hwd]; exact (Ext.refl _).alloc _
            have HDS := Lib.hid (show ∀ k, k < 3 → ∃ a b, wd.cell? ⟨gs, k * 2, none⟩ = some (.int .i64 a) ∧ wd.cell? ⟨gs, k * 2 + 1, none⟩ = some (.int .i64 b) by
              have hb : Blk wd gs 31 #[.int .i64 r1, .int .i64 ls, .int .i64 (-1000000000000000), .int .i64 0, .int .i64 (-25), .int .i64 1] := by rw [hwd, hgs]; exact Blk.new _ _ _
              intro k hk
              match k, hk with
              | 0, _ => exact ⟨_, _, hb.cell rfl, hb.cell rfl⟩
              | 1, _ => exact ⟨_, _, hb.cell rfl, hb.cell rfl⟩
              | 2, _ => exact ⟨_, _, hb.cell rfl, hb.cell rfl⟩
              | n + 3, h => omega)
            have HSZ := Lib.hid (show gs < wd.heap.size by rw [hwd, hgs]; simp)
            have HED := Lib.hid (HE2.out.trans hxd)
            have HWD := Lib.hid hwd
            have HGSE := Lib.hid hgs
            clear hnm hls hwd hgs hxd HDD
            have HRXD := Lib.hid (HRX9.out.keep (HED.out.kept _))
            have HGXD := Lib.hid (HGX9.out.keep (HED.out.kept _))
            go_wp2
            rw [← HWD.out, ← HGSE.out]
            clear HWD z0 zz d0 d1 dz
            go_loopw [57] (fun i wr => ∃ (k : Nat), k ≤ 3 ∧ i = .int .i64 k ∧ Ext wd wr) (fun i _ => 3 - (intOf i).toNat)
            case atStart => exact ⟨0, Nat.zero_le _, rfl, Ext.refl _⟩
            case round =>
              obtain ⟨n, hn, rfl, hext3⟩ := hrel
              have HE3 := Lib.hid hext3
              clear hext3
              by_cases hltn : n < 3
              · obtain ⟨la, lb, hla, hlb⟩ := HDS.out n hltn
                have z0 := HE3.out.cell hla
                have z1 := HE3.out.cell hlb
                have zz : gs < wr.heap.size := Nat.lt_of_lt_of_le HSZ.out HE3.out.size
                have n0 : (0 : Int) ≤ (n : Int) := by omega
                have n1 : (n : Int) < 3 := by omega
                have hgx3 := HGXD.out.keep (HE3.out.kept _)
                have x0 := hgx3.cell (i := 0) rfl
                have x1 := hgx3.cell (i := 1) rfl
                have x2 := hgx3.cell (i := 2) rfl
                have x3 := hgx3.cell (i := 3) rfl
                have x4 := hgx3.cell (i := 4) rfl
                have x5 := hgx3.cell (i := 5) rfl
                have x6 := hgx3.cell (i := 6) rfl
                have xz := hgx3.lt
                obtain ⟨wa, hwa⟩ : ∃ wa, wa = wr.alloc (.cells #[.int .i64 la, .int .i64 lb] 31) := ⟨_, rfl⟩
                obtain ⟨ga, hga⟩ : ∃ ga, ga = wr.heap.size := ⟨_, rfl⟩
                have hxa : Ext wr wa := by rw [hwa]; exact (Ext.refl _).alloc _
                have HWA := Lib.hid hwa
                have HGAE := Lib.hid hga
                have HGA := Lib.hid (show Blk wa ga 31 #[.int .i64 la, .int .i64 lb] by rw [hwa, hga]; exact Blk.new _ _ _)
                have HGXA := Lib.hid (hgx3.keep (hxa.kept _))
                have HRXA := Lib.hid (HRXD.out.keep ((HE3.out.trans hxa).kept _))
                have HEA := Lib.hid (HE3.out.trans hxa)
                have HTA := Lib.hid (HT.out.ext (HX7.out.trans (HE9.out.trans (HED.out.trans (HE3.out.trans hxa)))))
                clear hla hlb hwa hga hxa hgx3
                go_wp2_with fail
                rw [← HWA.out, ← HGAE.out]
                clear HWA z0 z1 zz x0 x1 x2 x3 x4 x5 x6 xz
                refine (table_Sum 2 x nm la lb A B c e wa (fun _ => True) HRXA.out HCX.out HTA.out).mono ?_
                rintro e10 w10 ⟨A1, c1, B1, e1, rfl, -, hrv, hx10⟩
                obtain ⟨rs, hrs⟩ : ∃ rs, rs = (sumS x nm la lb).1 := ⟨_, rfl⟩
                obtain ⟨cd, hcd⟩ : ∃ cd, cd = (sumS x nm la lb).2 := ⟨_, rfl⟩
                have HRS := Lib.hid hrs
                have HCD := Lib.hid hcd
                rw [← hrs] at hrv
                rw [← hrs, ← hcd]
                obtain ⟨w11, hw11⟩ : ∃ w11, w11 = w10.alloc (.cells #[.int .i64 rs.kind, .string rs.s, .int .i64 rs.dn, .int .i64 rs.ds, .int .i64 rs.n, .slice A1 rs.cols.length c1, .slice B1 rs.rows.length e1] 33) := ⟨_, rfl⟩
                obtain ⟨g1, hg1⟩ : ∃ g1, g1 = w10.heap.size := ⟨_, rfl⟩
                have hx11 : Ext w10 w11 := by rw [hw11]; exact (Ext.refl _).alloc _
                have HW11 := Lib.hid hw11
                have HG1E := Lib.hid hg1
                have HG1 := Lib.hid (show Blk w11 g1 33 #[.int .i64 rs.kind, .string rs.s, .int .i64 rs.dn, .int .i64 rs.ds, .int .i64 rs.n, .slice A1 rs.cols.length c1, .slice B1 rs.rows.length e1] by rw [hw11, hg1]; exact Blk.new _ _ _)
                have HR1 := Lib.hid ((hrv.keep (hx11.kept _)).mono (T := fun _ => True) fun _ _ _ => trivial)
                have HE11 := Lib.hid (HEA.out.trans (hx10.trans hx11))
                have HGX11 := Lib.hid (HGXA.out.keep ((hx10.trans hx11).kept _))
                have HRX11 := Lib.hid (HRXA.out.keep ((hx10.trans hx11).kept _))
                have ha10 := HGA.out.keep (hx10.kept _)
                have hx10b := HGXA.out.keep (hx10.kept _)
                have x0 := hx10b.cell (i := 0) rfl
                have x1 := hx10b.cell (i := 1) rfl
                have x2 := hx10b.cell (i := 2) rfl
                have x3 := hx10b.cell (i := 3) rfl
                have x4 := hx10b.cell (i := 4) rfl
                have x5 := hx10b.cell (i := 5) rfl
                have x6 := hx10b.cell (i := 6) rfl
                have xz := hx10b.lt
                have z0 := ha10.cell (i := 0) rfl
                have z1 := ha10.cell (i := 1) rfl
                have zz := ha10.lt
                clear hrs hcd hrv hx10 hw11 hg1 hx11 ha10 hx10b HGXA HRXA HEA HGA
                go_wp2_with fail
                rw [← HW11.out, ← HG1E.out]
                clear HW11 z0 z1 zz x0 x1 x2 x3 x4 x5 x6 xz
                refine (r09_Sum 2 x nm la lb A B c e w11 (fun _ => True) HRX11.out).mono ?_
                rintro e12 w12 ⟨A2, c2, B2, e2, rfl, -, hrv, hx12⟩
                rw [← HRS.out] at hrv
                rw [← HRS.out, ← HCD.out]
                obtain ⟨w13, hw13⟩ : ∃ w13, w13 = w12.alloc (.cells #[.int .i64 rs.kind, .string rs.s, .int .i64 rs.dn, .int .i64 rs.ds, .int .i64 rs.n, .slice A2 rs.cols.length c2, .slice B2 rs.rows.length e2] 33) := ⟨_, rfl⟩
                obtain ⟨g2, hg2⟩ : ∃ g2, g2 = w12.heap.size := ⟨_, rfl⟩
                have hx13 : Ext w12 w13 := by rw [hw13]; exact (Ext.refl _).alloc _
                have HW13 := Lib.hid hw13
                have HR2 := Lib.hid ((hrv.keep (hx13.kept _)).mono (T := fun _ => True) fun _ _ _ => trivial)
                have HR1b := Lib.hid (HR1.out.keep ((hx12.trans hx13).kept _))
                have HE13 := Lib.hid (HE11.out.trans (hx12.trans hx13))
                have hg1b := HG1.out.keep (hx12.kept _)
                have y0 := hg1b.cell (i := 0) rfl
                have y1 := hg1b.cell (i := 1) rfl
                have y2 := hg1b.cell (i := 2) rfl
                have y3 := hg1b.cell (i := 3) rfl
                have y4 := hg1b.cell (i := 4) rfl
                have y5 := hg1b.cell (i := 5) rfl
                have y6 := hg1b.cell (i := 6) rfl
                have yz := hg1b.lt
                have hne : (cd != cd) = false := by simp
                clear hrv hx12 hw13 hg2 hx13 hg1b HG1 HGX11 HRX11 HE11 HR1
                go_wp2_with fail
                rw [← HW13.out]
                clear HW13 y0 y1 y2 y3 y4 y5 y6 yz
                refine (r06_Equal 2 rs rs A1 B1 A2 B2 c1 e1 c2 e2 w13 _ _ HR1b.out HR2.out).mono ?_
                rintro e14 w14 ⟨rfl, hx14⟩
                rw [decide_eq_true rfl]
                have HE14 := Lib.hid (HE13.out.trans hx14)
                clear hx14 hne
                go_wp2
                go_roundw
                case rel => exact ⟨n + 1, by omega, by go_num, HE14.out⟩
                case measure => simp [intOf]; omega
              · have HEN := Lib.hid (HED.out.trans HE3.out)
                go_wp2
                go_roundw
                case rel => exact ⟨j + 1, by omega, by go_num, HEN.out⟩
                case measure => simp [intOf]; omega
          · have HEN := Lib.hid (HE9.out.trans HE2.out)
            go_wp2
            go_roundw
            case rel => exact ⟨k + 1, by omega, by go_num, HEN.out⟩
            case measure => simp [intOf]; omega
      · have HEN := Lib.hid (HX7.out.trans HE.out)
        go_wp2
        go_ret
        exact ⟨rfl, HEN.out⟩
end Go.Proofs.YtcmmkeiiapbgcaaGreatDoor
