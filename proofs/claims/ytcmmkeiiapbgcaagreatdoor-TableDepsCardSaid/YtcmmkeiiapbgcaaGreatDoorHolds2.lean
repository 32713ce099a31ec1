/- The program's table.Holds. No conditions but that the arguments read as data. -/
import Derived.Test.YtcmmkeiiapbgcaaGreatDoorGroups2
namespace Go.Proofs.YtcmmkeiiapbgcaaGreatDoor
open Go Go.RowKit

/-- A slice of lists of ints of the call's own. -/
def OwnIss (w : World) (base : Nat) (X : Nat → Prop) (A : Option Addr) (c : Nat) (l : List (List Int)) : Prop :=
  ∃ hs, Own w base 22 1 A l.length c hs ∧ ∀ (i : Nat) (r : List Int), l[i]? = some r → ∃ (B : Option Addr) (e : Nat), hs[i]? = some (Value.slice B r.length e) ∧ r.length ≤ e ∧ Ints w (fun b => ob A ≠ some b ∧ X b) B r
theorem Ints.move {w w' : World} {S T : Nat → Prop} {l : List Int} {B : Option Addr} (h : Ints w S B l) (k : Kept S w w') (m : ∀ i, i < w.heap.size → S i → T i) : Ints w' T B l :=
  ((Ints.mono h (T := fun b => S b ∧ T b) fun i hi hs => ⟨hs, m i hi hs⟩).keep (k.mono fun _ _ hh => hh.1)).mono fun _ _ hh => hh.2
theorem OwnIss.nil (w : World) (base : Nat) (X : Nat → Prop) : OwnIss w base X none 0 [] := ⟨[], Own.nil _ _ _ _, by simp⟩
theorem OwnIss.ext {w w' : World} {base c : Nat} {X : Nat → Prop} {A : Option Addr} {l : List (List Int)} (h : OwnIss w base X A c l) (hx : Ext w w') : OwnIss w' base X A c l := by
  obtain ⟨hs, h1, h2⟩ := h
  refine ⟨hs, h1.ext hx, fun i r hr => ?_⟩
  obtain ⟨B, e, h3, hcp, h4⟩ := h2 i r hr
  exact ⟨B, e, h3, hcp, h4.keep (hx.kept _)⟩
theorem OwnIss.push {w w' : World} {base c' : Nat} {X : Nat → Prop} {A A' : Option Addr} {l : List (List Int)} {r : List Int} {B : Option Addr} {e : Nat} {hs : List Value} (ho : hs.length = l.length)
    (hv : ∀ (i : Nat) (r : List Int), l[i]? = some r → ∃ (B : Option Addr) (e : Nat), hs[i]? = some (Value.slice B r.length e) ∧ r.length ≤ e ∧ Ints w (fun b => ob A ≠ some b ∧ X b) B r)
    (hown : Own w' base 22 1 A' (l.length + 1) c' (hs ++ [Value.slice B r.length e])) (hg : w.grownBy w' (ob A)) (hat : ob A' = ob A ∨ ob A' = some w.heap.size)
    (hre : r.length ≤ e) (hy : Ints w (fun b => ob A ≠ some b ∧ X b) B r) : OwnIss w' base X A' c' (l ++ [r]) := by
  have hk : Kept (fun b => ob A ≠ some b ∧ X b) w w' := Kept.of_grown hg (fun b hb _ e => hb.1 e.symm)
  have hm : ∀ i, i < w.heap.size → (ob A ≠ some i ∧ X i) → (ob A' ≠ some i ∧ X i) := by
    rintro i hi ⟨h1, h2⟩
    refine ⟨?_, h2⟩
    rcases hat with e | e <;> rw [e]
    · exact h1
    · intro h; injection h with h; omega
  refine ⟨_, by simpa using hown, fun i r' hr => ?_⟩
  rcases Nat.lt_or_ge i l.length with hlt | hge
  · rw [List.getElem?_append_left hlt] at hr
    obtain ⟨B', e', h3, hcp, h4⟩ := hv i r' hr
    exact ⟨B', e', by rw [List.getElem?_append_left (by omega)]; exact h3, hcp, h4.move hk hm⟩
  · rw [List.getElem?_append_right hge] at hr
    have hj0 : i - l.length = 0 := by
      rcases Nat.eq_zero_or_pos (i - l.length) with h0 | h0
      · exact h0
      · rw [List.getElem?_eq_none (by simp; omega)] at hr
        cases hr
    rw [hj0] at hr
    simp at hr
    subst hr
    exact ⟨B, e, by rw [List.getElem?_append_right (by omega), ho, hj0]; rfl, hre, hy.move hk hm⟩
theorem OwnIss.riss {w : World} {base c : Nat} {X T : Nat → Prop} {A : Option Addr} {l : List (List Int)} (h : OwnIss w base X A c l) (hl : l.length ≤ 4294967296) (h1 : ∀ b, ob A = some b → T b) (h2 : ∀ b, X b → T b) : RIss w T A l := by
  obtain ⟨hs, ho, hv⟩ := h
  refine ⟨hl, hs, ho.rd.mono fun i _ hi => h1 i hi, by simpa using ho.len, fun i r hr => ?_⟩
  obtain ⟨B, e, h3, hcp, h4⟩ := hv i r hr
  exact ⟨B, e, h3, hcp, h4.mono fun i _ hi => h2 i hi.2⟩
theorem OwnIss.blk {w : World} {base c : Nat} {X : Nat → Prop} {A : Option Addr} {l : List (List Int)} (h : OwnIss w base X A c l) {k : Nat} (hk : ob A = some k) : base ≤ k ∧ k < w.heap.size := by
  obtain ⟨xs, ho, _⟩ := h
  exact ho.blk hk
theorem infoIs : (Tryz.prog.info? 22).map (fun i => (i.zero, i.size, i.bytes)) = some (some (.slice none 0 0), 1, 24) := by kernel_rfl
theorem tiIs : TI Tryz.prog 48 22 1 24 := TI.mk_ Tryz.underlying48 infoIs rfl (by decide)

theorem class_eq (rows : List (List Val)) (c i j : Nat) (hi : i < rows.length) (hj : j < rows.length) : (classesS rows c).getD i 0 = (classesS rows c).getD j 0 ↔ rows[i].getD c Val.zero = rows[j].getD c Val.zero := by
  have gi : (classesS rows c).getD i 0 = idxF (eqAt c rows[i]) rows := by simp [classesS, hi]
  have gj : (classesS rows c).getD j 0 = idxF (eqAt c rows[j]) rows := by simp [classesS, hj]
  have hn : ∀ k (hk : k < rows.length), 0 ≤ idxF (eqAt c rows[k]) rows := by
    intro k hk
    have := idxF_any (eqAt c rows[k]) rows
    rw [show rows.any (eqAt c rows[k]) = true from List.any_eq_true.2 ⟨rows[k], List.getElem_mem hk, by simp [eqAt]⟩] at this
    exact of_decide_eq_true this
  rw [gi, gj]
  constructor
  · intro h
    obtain ⟨a, ha, hal, hap, _⟩ := idxF_some (hn i hi)
    obtain ⟨b, hb, hbl, hbp, _⟩ := idxF_some (hn j hj)
    rw [ha, hb] at h
    have : a = b := by omega
    subst this
    simp only [eqAt, decide_eq_true_eq] at hap hbp
    rw [← hap, hbp]
  · intro h
    have : eqAt c rows[i] = eqAt c rows[j] := by
      funext o
      simp only [eqAt, h]
    rw [this]
def holdRows (rows : List (List Val)) (fs : List Nat) (to : Nat) : Bool := rows.all fun r => rows.all fun o => !(fs.all fun f => eqAt f r o) || eqAt to r o
theorem holdRows_eq {rows : List (List Val)} {fs : List Nat} {to : Nat} {gs : List Int} (hg : GroupsOf rows.length (fs.map fun f => classesS rows f) gs) : consB gs (classesS rows to) = holdRows rows fs to := by
  have hs : ∀ i j (hi : i < rows.length) (hj : j < rows.length), (gs.getD i 0 = gs.getD j 0 ↔ ∀ f ∈ fs, rows[i].getD f Val.zero = rows[j].getD f Val.zero) := by
    intro i j hi hj
    rw [hg.same i j hi hj]
    constructor
    · intro h f hf
      exact (class_eq rows f i j hi hj).1 (h _ (List.mem_map_of_mem hf))
    · intro h l hl
      obtain ⟨f, hf, rfl⟩ := List.mem_map.1 hl
      exact (class_eq rows f i j hi hj).2 (h f hf)
  rw [Bool.eq_iff_iff, consB_iff, hg.len]
  have hh : holdRows rows fs to = true ↔ ∀ i j (hi : i < rows.length) (hj : j < rows.length), (∀ f ∈ fs, rows[i].getD f Val.zero = rows[j].getD f Val.zero) → rows[i].getD to Val.zero = rows[j].getD to Val.zero := by
    unfold holdRows
    simp only [List.all_eq_true, Bool.or_eq_true, Bool.not_eq_true', eqAt, decide_eq_true_eq]
    constructor
    · intro h i j hi hj hf
      rcases h rows[j] (List.getElem_mem hj) rows[i] (List.getElem_mem hi) with h1 | h1
      · rw [List.all_eq_false] at h1
        obtain ⟨f, hf1, hf2⟩ := h1
        exact absurd (hf f hf1) (by simpa using hf2)
      · exact h1
    · intro h r hr o ho
      obtain ⟨j, hj, rfl⟩ := List.mem_iff_getElem.1 hr
      obtain ⟨i, hi, rfl⟩ := List.mem_iff_getElem.1 ho
      by_cases hf : ∀ f ∈ fs, rows[i].getD f Val.zero = rows[j].getD f Val.zero
      · exact Or.inr (h i j hi hj hf)
      · left
        rw [List.all_eq_false]
        simp only [Classical.not_forall] at hf
        obtain ⟨f, hf1, hf2⟩ := hf
        exact ⟨f, hf1, by simpa using hf2⟩
  rw [hh]
  constructor
  · intro h i j hi hj hf
    rcases Nat.lt_trichotomy i j with hlt | rfl | hlt
    · exact ((class_eq rows to j i hj hi).1 (h j i hj hlt ((hs j i hj hi).2 (fun f hf1 => (hf f hf1).symm)))).symm
    · rfl
    · exact (class_eq rows to i j hi hj).1 (h i j hi hlt ((hs i j hi hj).2 hf))
  · intro h i j hi hj he
    exact (class_eq rows to i j hi (by omega)).2 (h i j hi (by omega) ((hs i j hi (by omega)).1 he))
def holdsS (cols : List ByteArray) (rows : List (List Val)) (frm : List ByteArray) (to : ByteArray) : Bool :=
  decide (0 ≤ idxS cols to) && regB cols rows && frm.all (fun f => decide (0 ≤ idxS cols f)) && holdRows rows (frm.map fun f => (idxS cols f).toNat) (idxS cols to).toNat

set_option maxRecDepth 100000 in
set_option maxHeartbeats 1000000 in
theorem table_Holds (q : Nat) (cols : List ByteArray) (rows : List (List Val)) (frm : List ByteArray) (to : ByteArray) (A B C : Option Addr) (ca cb cc : Nat) (w : World) (S T U : Nat → Prop) (hA : Strs w S A cols) (hB : Rows w T q B rows) (hC : Strs w U C frm) :
    Calls Tryz.prog 23 #[.slice A cols.length ca, .slice B rows.length cb, .agg #[.slice C frm.length cc, .string to]] w (RetB w (holdsS cols rows frm to)) := by
  have hcl := hA.2.1
  have hrl := hB.len
  have hfl := hC.2.1
  have HA := Lib.hid hA
  have HB := Lib.hid hB
  have HC := Lib.hid hC
  clear hA hB hC
  have HX0 := Lib.hid ((Ext.refl w).alloc (.cells #[.slice C frm.length cc, .string to] 52))
  by_cases ht : 0 ≤ idxS cols to
  case neg =>
    have HF := Lib.hid (show holdsS cols rows frm to = false by unfold holdsS; rw [decide_eq_false ht]; rfl)
    go_enter Tryz.func23, Tryz.ntmps23
    go_wp2_with (go_at_call 45; refine (slices_Index _ _ _ _ _ S (HA.out.keep (HX0.out.kept S))).mono ?_; rintro e w' ⟨rfl, rfl⟩)
    go_ret
    exact ⟨by rw [HF.out]; rfl, HX0.out⟩
  obtain ⟨tn, ht1, ht2, -⟩ := idxS_at ht
  cases hrg : regB cols rows
  · have HF := Lib.hid (show holdsS cols rows frm to = false by unfold holdsS; rw [hrg]; simp)
    have HRG := Lib.hid hrg
    clear hrg ht1
    go_enter Tryz.func23, Tryz.ntmps23
    go_wp2_with (first | (go_at_call 45; refine (slices_Index _ _ _ _ _ S (HA.out.keep (HX0.out.kept S))).mono ?_; rintro e w' ⟨rfl, rfl⟩) | (go_at_call 62; refine (table_regular q cols rows _ _ _ _ _ T hcl (HB.out.keep (HX0.out.kept T))).mono ?_; rintro e w' ⟨rfl, rfl⟩; rw [HRG.out]))
    go_ret
    exact ⟨by rw [HF.out]; rfl, HX0.out⟩
  have HRG := Lib.hid hrg
  have HT1 := Lib.hid ht1
  have hrow : ∀ c, c < cols.length → ∀ j (h : j < rows.length), c < rows[j].length := by
    intro c hc j hj
    have := hrg
    unfold regB at this
    rw [List.all_eq_true] at this
    have h9 := this rows[j] (List.getElem_mem hj)
    simp at h9
    omega
  have HROW := Lib.hid hrow
  clear hrg ht1 hrow ht
  go_enter Tryz.func23, Tryz.ntmps23
  go_wp2_with fail
  refine (slices_Index _ _ _ _ _ S (HA.out.keep (HX0.out.kept S))).mono ?_
  rintro e w' ⟨rfl, rfl⟩
  rw [HT1.out]
  go_wp2_with (go_at_call 62; refine (table_regular q cols rows _ _ _ _ _ T hcl (HB.out.keep (HX0.out.kept T))).mono ?_; rintro e w' ⟨rfl, rfl⟩; rw [HRG.out])
  go_loopw [27, 8] (fun i v wr => ∃ (k : Nat) (A' : Option Addr) (c' : Nat), k ≤ frm.length ∧ i = .int .i64 k ∧ v = .slice A' k c' ∧ Ext w wr ∧ w.heap.size + 1 ≤ wr.heap.size ∧ (∀ j (h : j < frm.length), j < k → 0 ≤ idxS cols frm[j]) ∧ OwnIss wr (w.heap.size + 1) (fun b => w.heap.size + 1 ≤ b) A' c' ((frm.map fun f => classesS rows (idxS cols f).toNat).take k)) (fun i _ _ => frm.length - (intOf i).toNat)
  case atStart => exact ⟨0, none, 0, Nat.zero_le _, rfl, rfl, HX0.out, by simp, by intros; omega, OwnIss.nil _ _ _⟩
  case round =>
    obtain ⟨k, A', c', hk, rfl, rfl, hext, hsz, hall, hown⟩ := hrel
    have HE := Lib.hid hext
    have HALL := Lib.hid hall
    have HO := Lib.hid hown
    have hml : (frm.map fun f => classesS rows (idxS cols f).toNat).length = frm.length := by simp
    have HML := Lib.hid hml
    clear hall hown hml
    by_cases hlt : k < frm.length
    · obtain ⟨b1, o1, rfl, z1, c1⟩ := (HC.out.keep (hext.kept U)).at_ hlt
      clear hext
      by_cases hf : 0 ≤ idxS cols frm[k]
      · obtain ⟨fn, hf1, hf2, -⟩ := idxS_at hf
        have HF1 := Lib.hid hf1
        clear hf1 hf
        go_wp2_with fail
        refine (slices_Index _ _ _ _ _ S (HA.out.keep (HE.out.kept S))).mono ?_
        rintro e w' ⟨rfl, rfl⟩
        rw [HF1.out]
        go_wp2_with fail
        refine (table_classes q rows _ _ fn _ T (HB.out.keep (HE.out.kept T)) (HROW.out fn hf2)).mono ?_
        rintro e w1 ⟨A1, c1', rfl, hcp1, hi1, hx1⟩
        have HX1 := Lib.hid hx1
        have hsz1 := hx1.size
        have HI1 := Lib.hid hi1
        clear hx1 hi1
        have hval : (frm.map fun f => classesS rows (idxS cols f).toNat)[k]'(by rw [HML.out]; exact hlt) = classesS rows fn := by simp [HF1.out]
        have HVAL := Lib.hid hval
        have hlk : ((frm.map fun f => classesS rows (idxS cols f).toNat).take k).length = k := by rw [List.length_take, HML.out]; omega
        obtain ⟨hs, ho, hv⟩ := HO.out.ext (HX1.out.alloc (.cells #[.slice A1 (classesS rows fn).length c1'] 22))
        have hhs : hs.length = k := by have := ho.len; rw [hlk] at this; omega
        rw [hlk] at ho
        have HOWN := Lib.hid ho
        have HV := Lib.hid hv
        have HHS := Lib.hid hhs
        have HLK := Lib.hid hlk
        clear ho hv hhs hlk hval
        go_wp2_with (at_builtin; go_must (refine wpList_app rfl (.tmp 36) (.tmp 40) rfl tiIs rfl HOWN.out rfl (Blk.rd (Blk.new _ _ _)) rfl (by simp [Value.oneCell']) (by omega) (by decide) (by simp; omega) ?_); intro A4 c4 w4 hown4 hg4 hat4)
        go_roundw
        case rel =>
          have hsz4 := hg4.size
          simp at hsz4
          refine ⟨k + 1, A4, c4, by omega, by go_num, rfl, Ext.grown (HE.out.trans (HX1.out.alloc _)) hg4 (fun b hb => by have := (HOWN.out.blk hb).1; omega), by omega, fun j h hj => ?_, ?_⟩
          · by_cases hjk : j = k
            · subst hjk; rw [HF1.out]; omega
            · exact HALL.out j h (by omega)
          · rw [List.take_succ_eq_append_getElem (by rw [HML.out]; exact hlt), HVAL.out]
            refine OwnIss.push (by rw [HLK.out]; exact HHS.out) HV.out (by rw [HLK.out]; exact hown4) hg4 hat4 hcp1 ((HI1.out.keep (Kept.alloc _ _ _)).mono fun i _ hi => ⟨fun h0 => ?_, ?_⟩)
            · have := (HO.out.blk h0).2
              unfold Fresh at hi
              omega
            · unfold Fresh at hi
              omega
        case measure => simp [intOf]; omega
      · have HF := Lib.hid (show holdsS cols rows frm to = false by
          unfold holdsS
          rw [all_not frm _ k hlt (by simpa using hf)]
          simp)
        go_wp2_with (go_at_call 45; refine (slices_Index _ _ _ _ _ S (HA.out.keep (HE.out.kept S))).mono ?_; rintro e w' ⟨rfl, rfl⟩)
        go_ret
        exact ⟨by rw [HF.out]; rfl, HE.out⟩
    · obtain rfl : k = frm.length := by omega
      have hoo := HO.out
      rw [List.take_of_length_le (by rw [HML.out]; exact Nat.le_refl _)] at hoo
      have HRS := Lib.hid (hoo.riss (T := fun _ => True) (by rw [HML.out]; exact hfl) (fun _ _ => trivial) (fun _ _ => trivial))
      clear hoo hext
      have hgl := table_groups rows.length (frm.map fun f => classesS rows (idxS cols f).toNat) A' c' wr (fun _ => True) HRS.out (fun l hl => by obtain ⟨f, _, rfl⟩ := List.mem_map.1 hl; simp [classesS]) hrl
      rw [HML.out] at hgl
      have HGL := Lib.hid hgl
      clear hgl
      go_wp2_with fail
      refine HGL.out.mono ?_
      rintro e w1 ⟨gs, hgo, A1, c1, rfl, hcp1, hi1, hx1⟩
      have HX1 := Lib.hid hx1
      have HGO := Lib.hid hgo
      have HI1 := Lib.hid hi1
      have hgsl := hgo.len
      have HGSL := Lib.hid hgsl
      clear hx1 hgo hi1 hgsl
      go_wp2_with fail
      refine (table_classes q rows _ _ tn _ T (HB.out.keep ((HE.out.trans HX1.out).kept T)) (HROW.out tn ht2)).mono ?_
      rintro e w2 ⟨A2, c2, rfl, hcp2, hi2, hx2⟩
      have HX2 := Lib.hid hx2
      have HI2 := Lib.hid hi2
      clear hx2 hi2
      go_wp2_with fail
      refine (table_decides gs (classesS rows tn) A1 A2 c1 c2 _ (Fresh wr) (Fresh w1) (HI1.out.keep (HX2.out.kept _)) HI2.out (by rw [HGSL.out]; simp [classesS])).mono ?_
      rintro e w3 ⟨rfl, hx3⟩
      have HX3 := Lib.hid hx3
      clear hx3
      have HF := Lib.hid (show consB gs (classesS rows tn) = holdsS cols rows frm to by
        unfold holdsS
        rw [HRG.out, HT1.out, all_take frm _ (fun j h => by simpa using HALL.out j h h), decide_eq_true (by omega : (0 : Int) ≤ (tn : Int))]
        simp only [Bool.true_and, Int.toNat_natCast]
        refine holdRows_eq ?_
        have := HGO.out
        rwa [List.map_map])
      go_wp2
      go_ret
      exact ⟨by rw [← HF.out]; rfl, HE.out.trans (HX1.out.trans (HX2.out.trans HX3.out))⟩
end Go.Proofs.YtcmmkeiiapbgcaaGreatDoor
