/- The program's table.Keys. Conditions: the arguments read as data, at most 1000 columns. -/
import Derived.Test.YtcmmkeiiapbgcaaGreatDoorKeys4
namespace Go.Proofs.YtcmmkeiiapbgcaaGreatDoor
open Go Go.RowKit

theorem setsS_len (n : Nat) (hn : n ≤ 1000) : (setsS n).length ≤ 1002000 := by
  unfold setsS
  have : ∀ m, ((List.range m).flatMap (pairsS n)).length ≤ m * 1000 := by
    intro m
    induction m with
    | zero => simp
    | succ m ih =>
      rw [List.range_succ, List.flatMap_append, List.length_append]
      have : ([m].flatMap (pairsS n)).length ≤ 1000 := by simp [pairsS]; omega
      omega
  have := this n
  simp only [List.length_append, List.length_map, List.length_range, List.length_cons, List.length_nil]
  omega
theorem setsS_in (n : Nat) : ∀ s ∈ setsS n, ∀ c ∈ s, 0 ≤ c ∧ c < (n : Int) := by
  intro s hs c hc
  unfold setsS at hs
  rcases List.mem_append.1 hs with hs | hs
  · rcases List.mem_append.1 hs with hs | hs
    · simp at hs; subst hs; simp at hc
    · obtain ⟨i, hi, rfl⟩ := List.mem_map.1 hs
      simp at hc hi
      omega
  · obtain ⟨i, hi, h2⟩ := List.mem_flatMap.1 hs
    unfold pairsS at h2
    obtain ⟨j, hj, rfl⟩ := List.mem_map.1 h2
    simp [List.mem_range'] at hc hi hj
    rcases hc with rfl | rfl <;> omega
theorem depsOf_succ (cols : List ByteArray) (s : List Int) (m : Nat) : depsOf cols s (m + 1) = depsOf cols s m ++ if memI s (m : Int) then [] else [⟨namesS cols s, cols.getD m ⟨#[]⟩⟩] := by
  unfold depsOf
  rw [List.range_succ, List.filter_append, List.map_append]
  congr 1
  cases h : memI s (m : Int) <;> simp [h]
theorem depsOf_len (cols : List ByteArray) (s : List Int) (m : Nat) : (depsOf cols s m).length ≤ m := by
  unfold depsOf
  rw [List.length_map]
  exact Nat.le_trans (List.length_filter_le _ _) (by simp)

set_option maxRecDepth 100000 in
set_option maxHeartbeats 1000000 in
theorem table_Keys (q : Nat) (cols : List ByteArray) (rows : List (List Val)) (A B : Option Addr) (ca cb : Nat) (w : World) (S T : Nat → Prop) (hA : Strs w S A cols) (hB : Rows w T q B rows) (hn : cols.length ≤ 1000) :
    Calls Tryz.prog 39 #[.slice A cols.length ca, .slice B rows.length cb] w (RetDs w (keysS cols rows)) := by
  have hcl := hA.2.1
  have hrl := hB.len
  have HA := Lib.hid hA
  have HB := Lib.hid hB
  clear hA hB
  cases hnd : nodupB cols
  · have HND := Lib.hid (show decide cols.Nodup = false from hnd)
    have HF := Lib.hid (show keysS cols rows = [] by unfold keysS; rw [hnd]; rfl)
    clear hnd
    go_enter Tryz.func39, Tryz.ntmps39
    go_wp2_with (go_at_call 80; refine (table_different cols _ _ _ S HA.out).mono ?_; rintro e w' ⟨rfl, hx⟩; have HX := Lib.hid hx; clear hx; rw [HND.out])
    go_ret
    exact ⟨none, 0, by rw [HF.out]; rfl, by rw [HF.out]; exact Nat.le_refl _, by rw [HF.out]; exact ⟨by simp, [], Rd.nil, rfl, by simp⟩, HX.out⟩
  have HND := Lib.hid (show decide cols.Nodup = true from hnd)
  cases hrg : regB cols rows
  · have HRG := Lib.hid hrg
    have HF := Lib.hid (show keysS cols rows = [] by unfold keysS; rw [hrg]; simp)
    clear hnd hrg
    go_enter Tryz.func39, Tryz.ntmps39
    go_wp2_with (first | (go_at_call 80; refine (table_different cols _ _ _ S HA.out).mono ?_; rintro e w' ⟨rfl, hx⟩; have HX := Lib.hid hx; clear hx; rw [HND.out]) | (go_at_call 62; refine (table_regular q cols rows _ _ _ _ _ T hcl (HB.out.keep (HX.out.kept T))).mono ?_; rintro e w' ⟨rfl, rfl⟩; rw [HRG.out]))
    go_ret
    exact ⟨none, 0, by rw [HF.out]; rfl, by rw [HF.out]; exact Nat.le_refl _, by rw [HF.out]; exact ⟨by simp, [], Rd.nil, rfl, by simp⟩, HX.out⟩
  have HRG := Lib.hid hrg
  have HF := Lib.hid (show keysS cols rows = ((setsS cols.length).foldl (keyStep cols rows) ([], [])).2 by unfold keysS; rw [hnd, hrg]; rfl)
  have hrow : ∀ c, c < cols.length → ∀ j (h : j < rows.length), c < rows[j].length := by
    intro c hc j hj
    have := hrg
    unfold regB at this
    rw [List.all_eq_true] at this
    have h9 := this rows[j] (List.getElem_mem hj)
    simp at h9
    omega
  have HROW := Lib.hid hrow
  clear hnd hrg hrow
  go_enter Tryz.func39, Tryz.ntmps39
  go_wp2_with (first | (go_at_call 80; refine (table_different cols _ _ _ S HA.out).mono ?_; rintro e w' ⟨rfl, hx⟩; have HX := Lib.hid hx; clear hx; rw [HND.out]) | (go_at_call 62; refine (table_regular q cols rows _ _ _ _ _ T hcl (HB.out.keep (HX.out.kept T))).mono ?_; rintro e w' ⟨rfl, rfl⟩; rw [HRG.out]))
  go_loopw [24, 5] (fun i v wr => ∃ (k : Nat) (A' : Option Addr) (c' : Nat), k ≤ cols.length ∧ i = .int .i64 k ∧ v = .slice A' k c' ∧ Ext w wr ∧ OwnIss wr w.heap.size (fun b => w.heap.size ≤ b) A' c' ((listsS rows cols.length).take k)) (fun i _ _ => cols.length - (intOf i).toNat)
  case atStart => exact ⟨0, none, 0, Nat.zero_le _, rfl, rfl, HX.out, OwnIss.nil _ _ _⟩
  case round =>
    clear HX
    obtain ⟨k, A', c', hk, rfl, rfl, hext, hown⟩ := hrel
    have HE := Lib.hid hext
    have HO := Lib.hid hown
    have hml : (listsS rows cols.length).length = cols.length := by simp [listsS]
    have HML := Lib.hid hml
    have hszw := hext.size
    clear hown hml hext
    by_cases hlt : k < cols.length
    · go_wp2_with fail
      refine (table_classes q rows _ _ k _ T (HB.out.keep (HE.out.kept T)) (HROW.out k hlt)).mono ?_
      rintro e w1 ⟨A1, c1', rfl, hcp1, hi1, hx1⟩
      have HX1 := Lib.hid hx1
      have hsz1 := hx1.size
      have HI1 := Lib.hid hi1
      clear hx1 hi1
      have hval : (listsS rows cols.length)[k]'(by rw [HML.out]; exact hlt) = classesS rows k := by simp [listsS]
      have HVAL := Lib.hid hval
      have hlk : ((listsS rows cols.length).take k).length = k := by rw [List.length_take, HML.out]; omega
      obtain ⟨hs, hhs, ho, hv⟩ := (HO.out.ext (HX1.out.alloc (.cells #[.slice A1 (classesS rows k).length c1'] 22))).add
      rw [hlk] at ho
      have HOWN := Lib.hid ho
      have HV := Lib.hid hv
      have HHS := Lib.hid hhs
      have HLK := Lib.hid hlk
      clear ho hv hhs hlk hval
      go_wp2_with (at_builtin; go_must (refine wpList_app rfl (.tmp 27) (.tmp 31) rfl tiIs rfl HOWN.out rfl (Blk.rd (Blk.new _ _ _)) rfl (by simp [Value.oneCell']) (by omega) (by decide) (by simp; omega) ?_); intro A4 c4 w4 hown4 hg4 hat4)
      go_roundw
      case rel =>
        refine ⟨k + 1, A4, c4, by omega, by go_num, rfl, Ext.grown ((HE.out.trans HX1.out).alloc _) hg4 (fun b hb => (HOWN.out.blk hb).1), ?_⟩
        rw [List.take_succ_eq_append_getElem (by rw [HML.out]; exact hlt), HVAL.out]
        refine OwnIss.push HHS.out HV.out (by rw [HLK.out]; exact hown4) hg4 hat4 hcp1 ((HI1.out.keep (Kept.alloc _ _ _)).mono fun i _ hi => ⟨fun h0 => ?_, ?_⟩)
        · have := (HO.out.blk h0).2
          unfold Fresh at hi
          omega
        · unfold Fresh at hi
          omega
      case measure => simp [intOf]; omega
    · obtain rfl : k = cols.length := by omega
      have hoo := HO.out
      rw [List.take_of_length_le (by rw [HML.out]; exact Nat.le_refl _)] at hoo
      have HRS := Lib.hid (hoo.riss (T := fun _ => True) (by rw [HML.out]; exact hcl) (fun _ _ => trivial) (fun _ _ => trivial))
      clear hoo HO
      go_wp2_with fail
      refine (table_sets cols.length _ hn).mono ?_
      rintro e w1 ⟨A1, c1, rfl, hcp1, hi1, hx1⟩
      have HX1 := Lib.hid hx1
      have HI1 := Lib.hid hi1
      have hsz1 := hx1.size
      have hsl := setsS_len cols.length hn
      clear hx1 hi1
      obtain ⟨sets, hsets⟩ : ∃ s, s = setsS cols.length := ⟨_, rfl⟩
      rw [← hsets] at HI1 hsl HF hcp1
      rw [← hsets]
      have HIN := Lib.hid (show ∀ s ∈ sets, ∀ c ∈ s, 0 ≤ c ∧ c < (cols.length : Int) by rw [hsets]; exact setsS_in _)
      clear hsets
      obtain ⟨wo, rfl⟩ : ∃ wo : World, wo = wr := ⟨_, rfl⟩
      go_wp2
      go_loopw [38, 7, 8] (fun i v u wq => ∃ (k : Nat) (A7 A8 : Option Addr) (c7 c8 : Nat) (ks : List (List Int)) (ds : List Dep), k ≤ sets.length ∧ (ks, ds) = (sets.take k).foldl (keyStep cols rows) ([], []) ∧ i = .int .i64 k ∧ v = .slice A7 ks.length c7 ∧ u = .slice A8 ds.length c8 ∧ Ext w1 wq ∧ ks.length ≤ k ∧ ds.length ≤ k * 1000 ∧ OwnIss wq w1.heap.size (fun b => b < w1.heap.size) A7 c7 ks ∧ OwnDs wq w1.heap.size (fun b => w1.heap.size ≤ b ∧ ob A7 ≠ some b) A8 c8 ds ∧ (∀ b, ob A7 = some b → ob A8 ≠ some b)) (fun i _ _ _ => sets.length - (intOf i).toNat)
      case atStart => exact ⟨0, none, none, 0, 0, [], [], Nat.zero_le _, rfl, rfl, rfl, rfl, Ext.refl _, Nat.zero_le _, Nat.zero_le _, OwnIss.nil _ _ _, OwnDs.nil _ _ _, by simp [ob]⟩
      case round =>
        obtain ⟨k, A7, A8, c7, c8, ks, ds, hk, hst, rfl, rfl, rfl, hext, hkl, hdl, ho7, ho8, hdis⟩ := hrel
        have HST := Lib.hid hst
        have HE2 := Lib.hid hext
        have HO7 := Lib.hid ho7
        have HO8 := Lib.hid ho8
        have HDIS := Lib.hid hdis
        have hszq := hext.size
        clear hst hext ho7 ho8 hdis
        by_cases hlt : k < sets.length
        · obtain ⟨b1, o1, B1, e1, rfl, z1', p1', hcs, his⟩ := HI1.out.at_ hlt
          have p1 := HE2.out.cell p1'
          have z1 : b1 < wr.heap.size := by omega
          have HIS1 := Lib.hid (his.mono (T := fun b => b < w1.heap.size) fun i hi _ => hi)
          have hstep : (sets.take (k + 1)).foldl (keyStep cols rows) ([], []) = keyStep cols rows (ks, ds) sets[k] := by
            rw [List.take_succ_eq_append_getElem hlt, List.foldl_append, ← HST.out]; rfl
          have hmem := List.getElem_mem hlt
          obtain ⟨s, hs⟩ : ∃ s, s = sets[k] := ⟨_, rfl⟩
          rw [← hs] at p1 HIS1 hstep hmem hcs
          have HSTEP := Lib.hid hstep
          have HMEM := Lib.hid hmem
          have HCS := Lib.hid hcs
          have HIS := Lib.hid (HIS1.out.keep (HE2.out.kept _))
          clear p1' his hstep hmem hs hcs
          go_wp2_with fail
          refine (slices_ContainsFuncK ks s A7 B1 c7 e1 wr.heap.size _ (fun _ => True) (fun b => b < w1.heap.size) ((HO7.out.riss (by omega) (fun _ _ => trivial) (fun _ _ => trivial)).keep (Kept.alloc _ _ _)) ((Blk.new wr 22 #[.slice B1 s.length e1]).cell rfl) (HIS.out.keep (Kept.alloc _ _ _))).mono ?_
          rintro e w2 ⟨rfl, hx2⟩
          have hbx := hx2.cell ((Blk.new wr 22 #[.slice B1 s.length e1]).cell (i := 0) rfl)
          have HX2 := Lib.hid (((Ext.refl wr).alloc _).trans hx2)
          have hsz2 : wr.heap.size < w2.heap.size := by have := hx2.size; simp at this; omega
          clear hx2
          cases hany : ks.any (fun l => subI l s)
          case true =>
            have HANY := Lib.hid hany
            clear hany
            go_wp2
            go_roundw
            case rel => exact ⟨k + 1, A7, A8, c7, c8, ks, ds, by omega, by rw [HSTEP.out]; unfold keyStep; rw [if_pos HANY.out], by go_num, rfl, rfl, HE2.out.trans HX2.out, by omega, by omega, HO7.out.ext HX2.out, HO8.out.ext HX2.out, HDIS.out⟩
            case measure => simp [intOf]; omega
          case false =>
            have HANY := Lib.hid (show ¬ (ks.any (fun l => subI l s)) = true by rw [hany]; simp)
            clear hany
            go_wp2_with fail
            refine (table_isKey rows cols.length s B1 _ e1 _ _ (fun b => b < w1.heap.size) (fun _ => True) (HIS.out.keep (HX2.out.kept _)) (HRS.out.keep ((HX1.out.trans (HE2.out.trans HX2.out)).kept _)) (HIN.out s HMEM.out) hrl).mono ?_
            rintro e w3 ⟨rfl, hx3⟩
            have hbx3 := hx3.cell hbx
            have HX3 := Lib.hid (HX2.out.trans hx3)
            have hsz3 : w2.heap.size ≤ w3.heap.size := hx3.size
            clear hx3 hbx
            cases hkey : keyB rows cols.length (s.map Int.toNat)
            · have HKEY := Lib.hid hkey
              clear hkey
              go_wp2
              go_roundw
              case rel => exact ⟨k + 1, A7, A8, c7, c8, ks, ds, by omega, by rw [HSTEP.out]; unfold keyStep; rw [if_neg HANY.out, HKEY.out]; rfl, by go_num, rfl, rfl, HE2.out.trans HX3.out, by omega, by omega, HO7.out.ext HX3.out, HO8.out.ext HX3.out, HDIS.out⟩
              case measure => simp [intOf]; omega
            · have HKEY := Lib.hid (show (keyStep cols rows (ks, ds) s) = (ks ++ [s], ds ++ depsOf cols s cols.length) by unfold keyStep; rw [if_neg HANY.out, hkey]; rfl)
              clear hkey
              obtain ⟨hs7, hhs7, ho7, hv7⟩ := (HO7.out.ext (HX3.out.alloc (.cells #[.slice B1 s.length e1] 22))).add
              have HOWN := Lib.hid ho7
              have HV := Lib.hid hv7
              have HHS := Lib.hid hhs7
              clear ho7 hv7 hhs7
              go_wp2_with (at_builtin; go_must (refine wpList_app rfl (.tmp 51) (.tmp 53) rfl tiIs rfl HOWN.out rfl (Blk.rd (Blk.new _ _ _)) rfl (by simp [Value.oneCell']) (by omega) (by decide) (by simp; omega) ?_); intro A4 c4 w4 hown4 hg4 hat4)
              have h74 : OwnIss w4 w1.heap.size (fun b => b < w1.heap.size) A4 c4 (ks ++ [s]) := by
                refine OwnIss.push HHS.out HV.out hown4 hg4 hat4 HCS.out ((HIS.out.keep ((HX3.out.alloc _).kept _)).mono fun i _ hi => ⟨fun h0 => ?_, hi⟩)
                have := (HO7.out.blk h0).1
                omega
              have h84 : OwnDs w4 w1.heap.size (fun b => w1.heap.size ≤ b ∧ ob A4 ≠ some b) A8 c8 ds := by
                refine OwnDs.mono (X := fun b => (w1.heap.size ≤ b ∧ ob A7 ≠ some b) ∧ ob A4 ≠ some b) ?_ (fun b _ hb => ⟨hb.1.1, hb.2⟩)
                refine OwnDs.keep (w := w3.alloc (.cells #[.slice B1 s.length e1] 22)) ?_ (Kept.of_grown hg4 fun b hb _ e => ?_)
                · refine (HO8.out.ext (HX3.out.alloc _)).mono fun b hb hh => ⟨hh, fun e => ?_⟩
                  rcases hat4 with h | h
                  · rw [h] at e; exact hh.2 e
                  · rw [h] at e; injection e with e; omega
                · rcases hb with h | h
                  · exact HDIS.out b e.symm h
                  · exact h.1.2 e.symm
              have hd4 : ∀ b, ob A4 = some b → ob A8 ≠ some b := by
                intro b h1 h2
                rcases hat4 with h | h
                · rw [h] at h1; exact HDIS.out b h1 h2
                · rw [h] at h1; injection h1 with h1; have := (HO8.out.blk h2).2; simp at h1; omega
              have hbx4 : w4.cell? ⟨wr.heap.size, 0, none⟩ = some (.slice B1 s.length e1) := by
                rw [World.cell?_of_block (hg4.block wr.heap.size (by simp; omega) (fun e => by have := (HO7.out.blk e.symm).2; omega))]
                exact ((Ext.refl w3).alloc _).cell hbx3
              have HX4 := Lib.hid (show Ext w1 w4 from Ext.grown ((HE2.out.trans HX3.out).alloc _) hg4 (fun b hb => (HOWN.out.blk hb).1))
              have hsz4 : w3.heap.size < w4.heap.size := by have := hg4.size; simp at this; omega
              have h8b : ob A8 ≠ some wr.heap.size := fun e => by have := (HO8.out.blk e).2; omega
              have H74 := Lib.hid h74
              have H84 := Lib.hid h84
              have HD4 := Lib.hid hd4
              have HB4 := Lib.hid hbx4
              have H8B := Lib.hid h8b
              clear h74 h84 hd4 hbx4 h8b hown4 hg4 hat4 HOWN HV HHS HO7 HO8 HDIS hbx3
              obtain ⟨wp, rfl⟩ : ∃ wp : World, wp = wr := ⟨_, rfl⟩
              go_wp2
              go_loopw [57, 8] (fun i u wr => ∃ (m : Nat) (A9 : Option Addr) (c9 : Nat) (d9 : List Dep), m ≤ cols.length ∧ d9 = ds ++ depsOf cols s m ∧ i = .int .i64 m ∧ u = .slice A9 d9.length c9 ∧ Ext w1 wr ∧ wp.heap.size < wr.heap.size ∧ wr.cell? ⟨wp.heap.size, 0, none⟩ = some (.slice B1 s.length e1) ∧ ob A9 ≠ some wp.heap.size ∧ d9.length ≤ ds.length + m ∧ OwnIss wr w1.heap.size (fun b => b < w1.heap.size) A4 c4 (ks ++ [s]) ∧ OwnDs wr w1.heap.size (fun b => w1.heap.size ≤ b ∧ ob A4 ≠ some b) A9 c9 d9 ∧ (∀ b, ob A4 = some b → ob A9 ≠ some b)) (fun i _ _ => cols.length - (intOf i).toNat)
              case atStart => exact ⟨0, A8, c8, ds, Nat.zero_le _, by simp [depsOf], rfl, rfl, HX4.out, by omega, HB4.out, H8B.out, by omega, H74.out, H84.out, HD4.out⟩
              case round =>
                clear HX4 HB4 H8B H74 H84 HD4
                obtain ⟨m, A9, c9, d9, hm, hd9, rfl, rfl, hx9, hsz9, hbx9, h9b, hl9, h79, h99, hd99⟩ := hrel
                have HD9 := Lib.hid hd9
                have HX9 := Lib.hid hx9
                have H9B := Lib.hid h9b
                have H79 := Lib.hid h79
                have H99 := Lib.hid h99
                have HD99 := Lib.hid hd99
                have hsz19 := hx9.size
                clear hd9 hx9 h9b h79 h99 hd99
                by_cases hltm : m < cols.length
                · obtain ⟨b2, o2, rfl, z2, p2⟩ := (HA.out.keep ((HE.out.trans (HX1.out.trans HX9.out)).kept S)).at_ hltm
                  cases hmm : memI s (m : Int)
                  · have HMM := Lib.hid hmm
                    clear hmm
                    go_wp2_with (go_at_call 86; refine (slices_ContainsI _ _ s _ _ (fun b => b < w1.heap.size) (HIS1.out.keep (HX9.out.kept _))).mono ?_; rintro e w' ⟨rfl, rfl⟩; rw [HMM.out])
                    refine (table_names cols s _ _ _ _ _ S (fun b => b < w1.heap.size) (HA.out.keep ((HE.out.trans (HX1.out.trans HX9.out)).kept S)) (HIS1.out.keep (HX9.out.kept _)) (HIN.out s HMEM.out)).mono ?_
                    rintro e w5 ⟨A5, c5, rfl, hcp5, hss5, hx5⟩
                    have HX5 := Lib.hid hx5
                    have HSS5 := Lib.hid hss5
                    have HCP5 := Lib.hid hcp5
                    have hsz5 := hx5.size
                    obtain ⟨hs9, hhs9, ho9, hv9⟩ := (H99.out.ext (HX5.out.alloc (.cells #[.slice A5 (namesS cols s).length c5, .string cols[m]] 52))).add
                    have HOWN := Lib.hid ho9
                    have HV := Lib.hid hv9
                    have HHS := Lib.hid hhs9
                    clear ho9 hv9 hhs9 hx5 hss5 hcp5
                    go_wp2_with (at_builtin; go_must (refine wpList_app rfl (.tmp 66) (.tmp 72) rfl tiD rfl HOWN.out rfl (Blk.rd (Blk.new _ _ _)) rfl (by simp [Value.oneCell']) (by omega) (by decide) (by simp; omega) ?_); intro A6 c6 w6 hown6 hg6 hat6)
                    go_roundw
                    case rel =>
                      have h9lt : ∀ b, ob A9 = some b → b < wr.heap.size := fun b hb => (H99.out.blk hb).2
                      have h4lt : ∀ b, ob A4 = some b → w1.heap.size ≤ b ∧ b < wr.heap.size := fun b hb => H79.out.blk hb
                      refine ⟨m + 1, A6, c6, d9 ++ [⟨namesS cols s, cols[m]⟩], by omega, ?_, by go_num, by simp, Ext.grown ((HX9.out.trans HX5.out).alloc _) hg6 (fun b hb => (HOWN.out.blk hb).1), by have := hg6.size; simp at this; omega, ?_, ?_, by simp; omega, ?_, ?_, ?_⟩
                      · rw [HD9.out, depsOf_succ, HMM.out, List.append_assoc]
                        simp [hltm]
                      · rw [World.cell?_of_block (hg6.block wp.heap.size (by simp; omega) (fun e => H9B.out e.symm))]
                        exact (HX5.out.alloc _).cell hbx9
                      · intro e
                        rcases hat6 with h | h
                        · rw [h] at e; exact H9B.out e
                        · rw [h] at e; injection e with e; simp at e; omega
                      · exact (H79.out.ext (HX5.out.alloc _)).keep (Kept.of_grown hg6 fun b hb _ e => by
                          rcases hb with h | h
                          · exact HD99.out b h e.symm
                          · have := (H99.out.blk e.symm).1; omega)
                      · refine OwnDs.push HHS.out HV.out hown6 hg6 hat6 HCP5.out (HA.out.2.2 _ (List.getElem_mem hltm)) ((HSS5.out.keep (Kept.alloc _ _ _)).mono fun i _ hi => ?_)
                        unfold Fresh at hi
                        exact ⟨fun e => by have := h9lt i e; omega, by omega, fun e => by have := (h4lt i e).2; omega⟩
                      · intro b h1 h2
                        rcases hat6 with h | h
                        · rw [h] at h2; exact HD99.out b h1 h2
                        · rw [h] at h2; injection h2 with h2; have := (h4lt b h1).2; simp at h2; omega
                    case measure => simp [intOf]; omega
                  · have HMM := Lib.hid hmm
                    clear hmm
                    go_wp2_with (go_at_call 86; refine (slices_ContainsI _ _ s _ _ (fun b => b < w1.heap.size) (HIS1.out.keep (HX9.out.kept _))).mono ?_; rintro e w' ⟨rfl, rfl⟩; rw [HMM.out])
                    go_roundw
                    case rel => exact ⟨m + 1, A9, c9, d9, by omega, by rw [HD9.out, depsOf_succ, HMM.out]; simp, by go_num, rfl, HX9.out, hsz9, hbx9, H9B.out, by omega, H79.out, H99.out, HD99.out⟩
                    case measure => simp [intOf]; omega
                · obtain rfl : m = cols.length := by omega
                  go_wp2
                  go_roundw
                  case rel => exact ⟨k + 1, A4, A9, c4, c9, ks ++ [s], d9, by omega, by rw [HSTEP.out, HKEY.out, HD9.out], by go_num, by simp, rfl, HX9.out, by simp; omega, by omega, H79.out, H99.out, HD99.out⟩
                  case measure => simp [intOf]; omega
        · obtain rfl : k = sets.length := by omega
          have hde : ds = keysS cols rows := by
            have := HST.out
            rw [List.take_of_length_le (Nat.le_refl _)] at this
            rw [HF.out, ← this]
          subst hde
          have HC := Lib.hid (show (keysS cols rows).length ≤ c8 by obtain ⟨hs, _, h1, _⟩ := HO8.out.add; exact h1.cap)
          go_wp2
          go_ret
          exact ⟨A8, c8, rfl, HC.out, HO8.out.rdeps (by omega) (fun b hb => by have := (HO8.out.blk hb).1; unfold Fresh; omega) (fun b hb => by unfold Fresh; omega), HE.out.trans (HX1.out.trans HE2.out)⟩
end Go.Proofs.YtcmmkeiiapbgcaaGreatDoor
