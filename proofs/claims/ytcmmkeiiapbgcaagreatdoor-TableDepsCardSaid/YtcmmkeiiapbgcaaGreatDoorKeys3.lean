/- Helpers of the program's table.Keys: isKey and sets. Conditions: the arguments read as data, indexes are in range. -/
import Derived.Test.YtcmmkeiiapbgcaaGreatDoorKeys2
namespace Go.Proofs.YtcmmkeiiapbgcaaGreatDoor
open Go Go.RowKit

theorem Own.of_blk {w : World} {g e n sz base : Nat} {cs : Array Value} (h : Blk w g e cs) (hs : cs.size = n * sz) (hn : n ≤ maxLen) (hb : base ≤ g) : Own w base e sz (some ⟨g, 0, none⟩) n n cs.toList := by
  refine ⟨by simpa using hs, Or.inr ⟨g, n, cs, rfl, hb, h, Nat.le_refl _, hn, hs, ?_⟩⟩
  rw [List.take_of_length_le (by simp [hs])]
def keyB (rows : List (List Val)) (nc : Nat) (fs : List Nat) : Bool := (List.range nc).all fun c => holdRows rows fs c
def listsS (rows : List (List Val)) (nc : Nat) : List (List Int) := (List.range nc).map fun c => classesS rows c

set_option maxRecDepth 100000 in
set_option maxHeartbeats 1000000 in
theorem table_isKey (rows : List (List Val)) (nc : Nat) (set : List Int) (A B : Option Addr) (ca cb : Nat) (w : World) (S T : Nat → Prop) (hA : Ints w S A set) (hB : RIss w T B (listsS rows nc)) (hr : ∀ c ∈ set, 0 ≤ c ∧ c < (nc : Int)) (hrl : rows.length ≤ 4294967296) :
    Calls Tryz.prog 85 #[.slice A set.length ca, .slice B nc cb, .int .i64 (rows.length : Int)] w (RetB w (keyB rows nc (set.map Int.toNat))) := by
  have hal := hA.2
  have hbl := hB.1
  have hlsl : (listsS rows nc).length = nc := by simp [listsS]
  rw [hlsl] at hbl
  have HLSL := Lib.hid hlsl
  have HA := Lib.hid hA
  have HB := Lib.hid hB
  have HR := Lib.hid hr
  clear hA hB hr hlsl
  go_enter Tryz.func85, Tryz.ntmps85
  go_wp2
  go_loopw [13, 7] (fun i v wr => ∃ (k : Nat) (A' : Option Addr) (c' : Nat), k ≤ set.length ∧ i = .int .i64 k ∧ v = .slice A' k c' ∧ Ext w wr ∧ OwnIss wr w.heap.size (fun b => b < w.heap.size) A' c' (((set.map Int.toNat).map fun f => classesS rows f).take k)) (fun i _ _ => set.length - (intOf i).toNat)
  case atStart => exact ⟨0, none, 0, Nat.zero_le _, rfl, rfl, Ext.refl _, OwnIss.nil _ _ _⟩
  case round =>
    obtain ⟨k, A', c', hk, rfl, rfl, hext, hown⟩ := hrel
    have HE := Lib.hid hext
    have HO := Lib.hid hown
    have hml : ((set.map Int.toNat).map fun f => classesS rows f).length = set.length := by simp
    have HML := Lib.hid hml
    clear hown hml
    by_cases hlt : k < set.length
    · obtain ⟨b1, o1, rfl, z1, c1⟩ := (HA.out.keep (hext.kept S)).at_ hlt
      have hrm := HR.out _ (List.getElem_mem hlt)
      obtain ⟨x, hx⟩ := Int.eq_ofNat_of_zero_le hrm.1
      have hx2 : x < nc := by omega
      rw [hx] at c1
      obtain ⟨b2, o2, B2, c2, rfl, z2', d1', hcp, hint⟩ := HB.out.at_ (show x < (listsS rows nc).length by rw [HLSL.out]; exact hx2)
      have d1 := hext.cell d1'
      have z2 : b2 < wr.heap.size := by have := hext.size; omega
      have hlx : (listsS rows nc)[x]'(by rw [HLSL.out]; exact hx2) = classesS rows x := by simp [listsS]
      rw [hlx] at d1 hcp hint
      have HINT := Lib.hid (hint.mono (T := fun b => b < w.heap.size) (fun i hi _ => hi))
      have hval : ((set.map Int.toNat).map fun f => classesS rows f)[k]'(by rw [HML.out]; exact hlt) = classesS rows x := by simp [hx]
      have HVAL := Lib.hid hval
      have hlk : (((set.map Int.toNat).map fun f => classesS rows f).take k).length = k := by rw [List.length_take, HML.out]; omega
      obtain ⟨hs, ho, hv⟩ := HO.out.ext ((Ext.refl wr).alloc (.cells #[.slice B2 (classesS rows x).length c2] 22))
      have hhs : hs.length = k := by have := ho.len; rw [hlk] at this; omega
      rw [hlk] at ho
      have HOWN := Lib.hid ho
      have HV := Lib.hid hv
      have HHS := Lib.hid hhs
      have HLK := Lib.hid hlk
      have hszw := HE.out.size
      clear ho hv hhs hlk hval hext hint d1' hlx hrm hx z2'
      go_wp2_with (at_builtin; go_must (refine wpList_app rfl (.tmp 17) (.tmp 22) rfl tiIs rfl HOWN.out rfl (Blk.rd (Blk.new _ _ _)) rfl (by simp [Value.oneCell']) (by omega) (by decide) (by simp; omega) ?_); intro A4 c4 w4 hown4 hg4 hat4)
      go_roundw
      case rel =>
        refine ⟨k + 1, A4, c4, by omega, by go_num, rfl, Ext.grown (HE.out.alloc _) hg4 (fun b hb => (HOWN.out.blk hb).1), ?_⟩
        rw [List.take_succ_eq_append_getElem (by rw [HML.out]; exact hlt), HVAL.out]
        refine OwnIss.push (by rw [HLK.out]; exact HHS.out) HV.out (by rw [HLK.out]; exact hown4) hg4 hat4 hcp ((HINT.out.keep (((HE.out.alloc _)).kept _)).mono fun i _ hi => ⟨fun h0 => ?_, hi⟩)
        have := (HO.out.blk h0).1
        omega
      case measure => simp [intOf]; omega
    · obtain rfl : k = set.length := by omega
      have hoo := HO.out
      rw [List.take_of_length_le (by rw [HML.out]; exact Nat.le_refl _)] at hoo
      have HRS := Lib.hid (hoo.riss (T := fun _ => True) (by rw [HML.out]; exact hal) (fun _ _ => trivial) (fun _ _ => trivial))
      clear hoo hext
      have hgl := table_groups rows.length ((set.map Int.toNat).map fun f => classesS rows f) A' c' wr (fun _ => True) HRS.out (fun l hl => by obtain ⟨f, _, rfl⟩ := List.mem_map.1 hl; simp [classesS]) hrl
      rw [HML.out] at hgl
      have HGL := Lib.hid hgl
      clear hgl
      go_wp2_with fail
      refine HGL.out.mono ?_
      rintro e w1 ⟨gs, hgo, A1, c1, rfl, hcp1, hi1, hx1⟩
      have HX1 := Lib.hid hx1
      have HGO := Lib.hid hgo
      have HI1 := Lib.hid hi1
      have hgsl := hgo.len
      have HGSL := Lib.hid hgsl
      clear hx1 hgo hi1 hgsl
      have hcf := slices_ContainsFuncD (listsS rows nc) gs B A1 cb c1 w1.heap.size (w1.alloc (.cells #[.slice A1 gs.length c1] 22)) T (Fresh wr) (HB.out.keep (((HE.out.trans HX1.out).alloc _).kept T)) ((Blk.new w1 22 #[.slice A1 gs.length c1]).cell rfl) (HI1.out.keep (Kept.alloc _ _ _)) (fun l hl => by rw [HGSL.out]; obtain ⟨f, _, rfl⟩ := List.mem_map.1 hl; simp [classesS])
      rw [HLSL.out] at hcf
      have HCF := Lib.hid hcf
      clear hcf
      go_wp2_with fail
      refine HCF.out.mono ?_
      rintro e w2 ⟨rfl, hx2⟩
      have HX2 := Lib.hid hx2
      clear hx2
      have HF := Lib.hid (show (!((listsS rows nc).any fun l => !consB gs l)) = keyB rows nc (set.map Int.toNat) by
        unfold listsS keyB
        rw [List.any_map, List.not_any_eq_all_not]
        congr 1
        funext c
        simp only [Function.comp_apply, Bool.not_not]
        exact holdRows_eq HGO.out)
      go_wp2
      go_ret
      exact ⟨by rw [← HF.out]; rfl, HE.out.trans (HX1.out.trans (((Ext.refl w1).alloc _).trans HX2.out))⟩

def pairsS (n i : Nat) : List (List Int) := (List.range' (i + 1) (n - (i + 1))).map fun j : Nat => [(i : Int), (j : Int)]
def setsS (n : Nat) : List (List Int) := [[]] ++ ((List.range n).map fun i : Nat => [(i : Int)]) ++ (List.range n).flatMap (pairsS n)
def RetIss (w : World) (l : List (List Int)) (e : Ending) (w' : World) : Prop := ∃ A c, e = .returned (.slice A l.length c) ∧ l.length ≤ c ∧ RIss w' (Fresh w) A l ∧ Ext w w'
theorem OwnIss.add {w : World} {base c : Nat} {X : Nat → Prop} {A : Option Addr} {l : List (List Int)} (h : OwnIss w base X A c l) : ∃ hs, hs.length = l.length ∧ Own w base 22 1 A l.length c hs ∧ ∀ (i : Nat) (r : List Int), l[i]? = some r → ∃ (B : Option Addr) (e : Nat), hs[i]? = some (Value.slice B r.length e) ∧ r.length ≤ e ∧ Ints w (fun b => ob A ≠ some b ∧ X b) B r := by
  obtain ⟨hs, h1, h2⟩ := h
  exact ⟨hs, by simpa using h1.len, h1, h2⟩

set_option maxRecDepth 100000 in
set_option maxHeartbeats 1000000 in
theorem table_sets (n : Nat) (w : World) (hn : n ≤ 1000) : Calls Tryz.prog 81 #[.int .i64 (n : Int)] w (RetIss w (setsS n)) := by
  go_enter Tryz.func81, Tryz.ntmps81
  go_wp2
  have HB0 := Lib.hid (Blk.new (w.alloc (.cells #[] 3)) 22 #[.slice (some ⟨w.heap.size, 0, none⟩) 0 0])
  have hst : OwnIss ((w.alloc (.cells #[] 3)).alloc (.cells #[.slice (some ⟨w.heap.size, 0, none⟩) 0 0] 22)) w.heap.size (Fresh w) (some ⟨w.heap.size + 1, 0, none⟩) 1 ([[]] ++ (List.range 0).map fun i : Nat => [(i : Int)]) := by
    refine ⟨[.slice (some ⟨w.heap.size, 0, none⟩) 0 0], ?_, fun i r hr => ?_⟩
    · have := Own.of_blk (n := 1) (sz := 1) (base := w.heap.size) HB0.out (by simp) (by unfold maxLen; omega) (by simp)
      simpa using this
    · have hi : i = 0 := by
        have := (List.getElem?_eq_some_iff.1 hr).1
        simp at this
        exact this
      subst hi
      simp at hr
      subst hr
      exact ⟨_, 0, rfl, Nat.le_refl _, Ints.nil⟩
  have HST := Lib.hid hst
  clear hst
  go_loopw [10, 3] (fun i v wr => ∃ (k : Nat) (A' : Option Addr) (c' : Nat), k ≤ n ∧ i = .int .i64 k ∧ v = .slice A' (k + 1) c' ∧ Ext w wr ∧ OwnIss wr w.heap.size (Fresh w) A' c' ([[]] ++ (List.range k).map fun i : Nat => [(i : Int)])) (fun i _ _ => n - (intOf i).toNat)
  case atStart => exact ⟨0, _, _, Nat.zero_le _, rfl, rfl, ((Ext.refl w).alloc _).alloc _, HST.out⟩
  case round =>
    clear HST HB0
    obtain ⟨k, A', c', hk, rfl, rfl, hext, hown⟩ := hrel
    have HE := Lib.hid hext
    have HO := Lib.hid hown
    have hszw := hext.size
    clear hown hext
    by_cases hlt : k < n
    · have hll : ([[]] ++ (List.range k).map fun i : Nat => [(i : Int)]).length = k + 1 := by simp
      obtain ⟨hs, hhs, ho, hv⟩ := (HO.out.ext (((Ext.refl wr).alloc (.cells #[.int .i64 (k : Int)] 3)).alloc (.cells #[.slice (some ⟨wr.heap.size, 0, none⟩) 1 1] 22))).add
      rw [hll] at ho
      have HOWN := Lib.hid ho
      have HV := Lib.hid hv
      have HHS := Lib.hid hhs
      have HLL := Lib.hid hll
      have hbn := Blk.new (wr.alloc (.cells #[.int .i64 (k : Int)] 3)) 22 #[.slice (some ⟨wr.heap.size, 0, none⟩) 1 1]
      rw [show (wr.alloc (.cells #[.int .i64 (k : Int)] 3)).heap.size = wr.heap.size + 1 by simp] at hbn
      have HBN := Lib.hid hbn
      clear ho hv hhs hll hbn
      go_wp2_with (at_builtin; go_must (refine wpList_app rfl (.tmp 13) (.tmp 16) rfl tiIs rfl HOWN.out rfl (Blk.rd HBN.out) rfl (by simp [Value.oneCell']) (by omega) (by decide) (by simp; omega) ?_); intro A4 c4 w4 hown4 hg4 hat4)
      go_roundw
      case rel =>
        refine ⟨k + 1, A4, c4, by omega, by go_num, rfl, Ext.grown ((HE.out.alloc _).alloc _) hg4 (fun b hb => (HOWN.out.blk hb).1), ?_⟩
        rw [List.range_succ, List.map_append, ← List.append_assoc]
        refine OwnIss.push (r := [(k : Int)]) HHS.out HV.out (by rw [HLL.out]; exact hown4) hg4 hat4 (Nat.le_refl _) ⟨?_, by simp⟩
        refine ((Blk.rd (Blk.new wr 3 #[.int .i64 (k : Int)])).keep (Kept.alloc _ _ _)).mono fun i _ hi => ⟨fun h0 => ?_, ?_⟩
        · have := (HO.out.blk h0).2
          omega
        · unfold Fresh
          omega
      case measure => simp [intOf]; omega
    · obtain rfl : k = n := by omega
      have hgo0 : OwnIss wr w.heap.size (Fresh w) A' c' ([[]] ++ ((List.range k).map fun i : Nat => [(i : Int)]) ++ (List.range 0).flatMap (pairsS k)) := by
        have := HO.out
        simpa using this
      have HO2 := Lib.hid hgo0
      clear hgo0 HO
      go_wp2
      go_loopw [20, 3] (fun i v wr => ∃ (m : Nat) (A' : Option Addr) (c' : Nat) (l : List (List Int)), m ≤ k ∧ l = [[]] ++ ((List.range k).map fun i : Nat => [(i : Int)]) ++ (List.range m).flatMap (pairsS k) ∧ i = .int .i64 m ∧ v = .slice A' l.length c' ∧ Ext w wr ∧ l.length ≤ 2000 + m * 1000 ∧ OwnIss wr w.heap.size (Fresh w) A' c' l) (fun i _ _ => k - (intOf i).toNat)
      case atStart => exact ⟨0, _, _, _, Nat.zero_le _, rfl, rfl, by simp, HE.out, by simp; omega, HO2.out⟩
      case round =>
        clear HO2 HE hszw
        obtain ⟨m, A2, c2, l, hm, hl, rfl, rfl, hext2, hll2, hown2⟩ := hrel
        have HL := Lib.hid hl
        have HE2 := Lib.hid hext2
        have HO3 := Lib.hid hown2
        clear hl hext2 hown2
        obtain ⟨wo, rfl⟩ : ∃ wo : World, wo = wr := ⟨_, rfl⟩
        by_cases hlt2 : m < k
        · go_wp2
          go_loopw [6, 3] (fun i v wr => ∃ (q : Nat) (A' : Option Addr) (c' : Nat) (l2 : List (List Int)), q ≤ k - (m + 1) ∧ l2 = l ++ (List.range' (m + 1) q).map (fun j : Nat => [(m : Int), (j : Int)]) ∧ i = .int .i64 ((m + 1 + q : Nat) : Int) ∧ v = .slice A' l2.length c' ∧ Ext w wr ∧ l2.length ≤ l.length + q ∧ OwnIss wr w.heap.size (Fresh w) A' c' l2) (fun i _ _ => k - (intOf i).toNat)
          case atStart => exact ⟨0, A2, c2, l, Nat.zero_le _, by simp, by go_num, rfl, HE2.out, by simp, HO3.out⟩
          case round =>
            obtain ⟨q, A3, c3, l2, hq, hl2, rfl, rfl, hext3, hll3, hown3⟩ := hrel
            have HL2 := Lib.hid hl2
            have HE3 := Lib.hid hext3
            have HO4 := Lib.hid hown3
            have hszw := hext3.size
            clear hl2 hext3 hown3
            by_cases hlt3 : m + 1 + q < k
            · obtain ⟨hs, hhs, ho, hv⟩ := (HO4.out.ext (((Ext.refl wr).alloc (.cells #[.int .i64 (m : Int), .int .i64 ((m + 1 + q : Nat) : Int)] 3)).alloc (.cells #[.slice (some ⟨wr.heap.size, 0, none⟩) 2 2] 22))).add
              have HOWN := Lib.hid ho
              have HV := Lib.hid hv
              have HHS := Lib.hid hhs
              have hbn := Blk.new (wr.alloc (.cells #[.int .i64 (m : Int), .int .i64 ((m + 1 + q : Nat) : Int)] 3)) 22 #[.slice (some ⟨wr.heap.size, 0, none⟩) 2 2]
              rw [show (wr.alloc (.cells #[.int .i64 (m : Int), .int .i64 ((m + 1 + q : Nat) : Int)] 3)).heap.size = wr.heap.size + 1 by simp] at hbn
              have HBN := Lib.hid hbn
              clear ho hv hhs hbn
              go_wp2_with (at_builtin; go_must (refine wpList_app rfl (.tmp 30) (.tmp 34) rfl tiIs rfl HOWN.out rfl (Blk.rd HBN.out) rfl (by simp [Value.oneCell']) (by omega) (by decide) (by simp; omega) ?_); intro A4 c4 w4 hown4 hg4 hat4)
              go_roundw
              case rel =>
                refine ⟨q + 1, A4, c4, l2 ++ [[(m : Int), ((m + 1 + q : Nat) : Int)]], by omega, ?_, by go_num, by simp, Ext.grown ((HE3.out.alloc _).alloc _) hg4 (fun b hb => (HOWN.out.blk hb).1), by simp; omega, ?_⟩
                · rw [HL2.out, List.range'_1_concat, List.map_append, ← List.append_assoc]
                  simp
                · refine OwnIss.push (r := [(m : Int), ((m + 1 + q : Nat) : Int)]) HHS.out HV.out hown4 hg4 hat4 (Nat.le_refl _) ⟨?_, by simp⟩
                  refine ((Blk.rd (Blk.new wr 3 #[.int .i64 (m : Int), .int .i64 ((m + 1 + q : Nat) : Int)])).keep (Kept.alloc _ _ _)).mono fun i _ hi => ⟨fun h0 => ?_, ?_⟩
                  · have := (HO4.out.blk h0).2
                    omega
                  · unfold Fresh
                    omega
              case measure => simp [intOf]; omega
            · have hqe : q = k - (m + 1) := by omega
              have HQ := Lib.hid hqe
              clear hqe
              go_wp2
              go_roundw
              case rel =>
                refine ⟨m + 1, A3, c3, l2, by omega, ?_, by go_num, rfl, HE3.out, by omega, HO4.out⟩
                rw [HL2.out, HL.out, HQ.out, List.range_succ, List.flatMap_append, ← List.append_assoc]
                simp [pairsS]
              case measure => simp [intOf]; omega
        · obtain rfl : m = k := by omega
          obtain rfl : l = setsS m := HL.out
          have HC := Lib.hid (show (setsS m).length ≤ c2 by obtain ⟨hs, _, h1, _⟩ := HO3.out.add; exact h1.cap)
          clear HL
          go_wp2
          go_ret
          exact ⟨A2, c2, rfl, HC.out, HO3.out.riss (by omega) (fun b hb => (HO3.out.blk hb).1) (fun _ h => h), HE2.out⟩
end Go.Proofs.YtcmmkeiiapbgcaaGreatDoor
