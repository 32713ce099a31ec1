/- The program's table.isName, is, Right, isTable and Find. No conditions but that the arguments read as data. -/
import Derived.Test.YtcmmkeiiapbgcaaGreatDoorRight2
namespace Go.Proofs.YtcmmkeiiapbgcaaGreatDoor
open Go Go.RowKit

def Val.zero : Val := ⟨0, ⟨#[]⟩, 0, 0, 0, [], []⟩
/-- A lookup table. -/
structure Look where
  name : ByteArray
  cols : List ByteArray
  rows : List (List Val)
def RL (w : World) (S : Nat → Prop) (d : Nat) (t : Look) (A B : Option Addr) : Prop := t.name.size ≤ 4294967296 ∧ Strs w S A t.cols ∧ Rows w S d B t.rows
theorem RL.keep {w w' : World} {S : Nat → Prop} {d : Nat} {t : Look} {A B : Option Addr} (h : RL w S d t A B) (k : Kept S w w') : RL w' S d t A B := ⟨h.1, h.2.1.keep k, h.2.2.keep k⟩
theorem RL.mono {w : World} {S T : Nat → Prop} {d : Nat} {t : Look} {A B : Option Addr} (h : RL w S d t A B) (k : ∀ i, i < w.heap.size → S i → T i) : RL w T d t A B := ⟨h.1, h.2.1.mono k, h.2.2.mono k⟩
theorem Rows.nil {w : World} {S : Nat → Prop} {d : Nat} {B : Option Addr} : Rows w S d B [] := ⟨by simp, [], Or.inl rfl, by simp, by simp⟩
theorem RV.zero {w : World} {S : Nat → Prop} {d : Nat} {A B : Option Addr} : RV w S d Val.zero A B := RV.mk (Nat.zero_le _) Strs.nil Rows.nil
/-- The value that a table is. -/
def tabV (cols : List ByteArray) (rows : List (List Val)) : Val := ⟨5, ⟨#[]⟩, 0, 0, 0, cols, rows⟩
theorem RL.val {w : World} {S : Nat → Prop} {d : Nat} {t : Look} {A B : Option Addr} (h : RL w S d t A B) : RV w S d (tabV t.cols t.rows) A B := RV.mk (Nat.zero_le _) h.2.1 h.2.2
theorem rightB_tab (cols : List ByteArray) (rows : List (List Val)) : rightB (tabV cols rows) = tableR cols rows := by simp [rightB, tabV, bareB]
theorem tableR_one (s : ByteArray) : tableR [s] [] = nameB s := by
  simp [tableR, colOK, memS, idxS]

set_option maxRecDepth 100000 in
set_option maxHeartbeats 400000 in
theorem table_isName (s : ByteArray) (hs : s.size ≤ 4294967296) (w : World) : Calls Tryz.prog 51 #[.string s] w (RetB w (nameB s)) := by
  go_enter Tryz.func51, Tryz.ntmps51
  go_wp2_with fail
  refine (value_Right 0 (tabV [s] []) (some ⟨w.heap.size, 0, none⟩) none 1 0 _ (fun _ => True) (RV.mk (Nat.zero_le _) ⟨?_, (by show (1 : Nat) ≤ _; omega), by simpa [tabV] using hs⟩ Rows.nil) (Nat.le_refl _)).mono ?_
  · exact (Blk.rd (Blk.new w 9 #[.string s])).mono fun _ _ _ => trivial
  rintro e1 w1 ⟨rfl, hx1⟩
  have HX := Lib.hid hx1
  clear hx1
  go_wp2
  go_ret
  exact ⟨by rw [rightB_tab, tableR_one]; rfl, ((Ext.refl w).alloc _).trans HX.out⟩

def isB (x v : Val) : Bool := decide (x.kind ≠ 0) && decide (x = v)
set_option maxRecDepth 100000 in
set_option maxHeartbeats 400000 in
theorem table_is (q : Nat) (x y : Val) (A B A' B' : Option Addr) (c e c' e' : Nat) (w : World) (S T : Nat → Prop) (hx : RV w S q x A B) (hy : RV w T q y A' B') :
    Calls Tryz.prog 46 #[(.agg #[.int .i64 x.kind, .string x.s, .int .i64 x.dn, .int .i64 x.ds, .int .i64 x.n, .slice A x.cols.length c, .slice B x.rows.length e]), (.agg #[.int .i64 y.kind, .string y.s, .int .i64 y.dn, .int .i64 y.ds, .int .i64 y.n, .slice A' y.cols.length c', .slice B' y.rows.length e'])] w (RetB w (isB x y)) := by
  have HX := Lib.hid hx
  have HY := Lib.hid hy
  clear hx hy
  by_cases hk : x.kind = 0
  · have k0 : (x.kind != 0) = false := by simp [hk]
    have HF := Lib.hid (show isB x y = false by simp [isB, hk])
    clear hk
    go_enter Tryz.func46, Tryz.ntmps46
    go_wp2
    go_ret
    exact ⟨by rw [HF.out]; rfl, ((Ext.refl w).alloc _).alloc _⟩
  · have k0 : (x.kind != 0) = true := by simp [hk]
    have HF := Lib.hid (show isB x y = decide (x = y) by simp [isB, hk])
    clear hk
    go_enter Tryz.func46, Tryz.ntmps46
    go_wp2_with fail
    refine (value_Equal q x y A B A' B' c e c' e' _ S T (HX.out.keep ((((Ext.refl w).alloc _).alloc _).kept _)) (HY.out.keep ((((Ext.refl w).alloc _).alloc _).kept _))).mono ?_
    rintro e1 w1 ⟨rfl, hx1⟩
    have HX1 := Lib.hid hx1
    clear hx1
    go_wp2
    go_ret
    exact ⟨by rw [HF.out]; rfl, (((Ext.refl w).alloc _).alloc _).trans HX1.out⟩

/-- The kinds of a column's cells that are not empty are one. -/
def kindsFrom (c : Nat) : List (List Val) → Int → Bool
  | [], _ => true
  | r :: rs, kd => if (r.getD c Val.zero).kind = 0 then kindsFrom c rs kd else if kd ≠ 0 ∧ kd ≠ (r.getD c Val.zero).kind then false else kindsFrom c rs (r.getD c Val.zero).kind
def lookR (t : Look) : Bool := nameB t.name && decide (t.cols ≠ []) && tableR t.cols t.rows && (List.range t.cols.length).all (fun c => kindsFrom c t.rows 0)
theorem tableR_row {cols : List ByteArray} {rows : List (List Val)} (h : tableR cols rows = true) {i : Nat} (hi : i < rows.length) : rows[i].length = cols.length := by
  unfold tableR at h
  simp only [Bool.and_eq_true, List.all_eq_true] at h
  have := h.2 rows[i] (List.getElem_mem hi)
  simp [rowOK] at this
  exact this.1

set_option maxRecDepth 100000 in
set_option maxHeartbeats 1000000 in
theorem table_Right (d : Nat) (t : Look) (A B : Option Addr) (c e : Nat) (w : World) (S : Nat → Prop) (h : RL w S d t A B) (hcap : t.cols.length ≤ c) :
    Calls Tryz.prog 16 #[(.agg #[.string t.name, .slice A t.cols.length c, .slice B t.rows.length e])] w (RetB w (lookR t)) := by
  have H := Lib.hid h
  have hns := h.1
  have hcl := h.2.1.2.1
  have hrl := h.2.2.len
  clear h
  go_enter Tryz.func16, Tryz.ntmps16
  go_wp2_with fail
  refine (table_isName t.name hns _).mono ?_
  rintro e1 w1 ⟨rfl, hx1⟩
  obtain ⟨hc1, hf1⟩ := bcell hx1
  have hz1 := hx1.size
  simp at hc1 hf1 hz1
  have hz2 : w.heap.size < w1.heap.size := by omega
  have HX1 := Lib.hid (((Ext.refl w).alloc _).trans hx1)
  cases hnm : nameB t.name
  · have HF := Lib.hid (show lookR t = false by simp [lookR, hnm])
    clear hnm hx1
    go_wp2
    go_ret
    exact ⟨by rw [HF.out]; rfl, HX1.out⟩
  by_cases he : t.cols = []
  · have HF := Lib.hid (show lookR t = false by simp [lookR, he])
    have hl0 : ((t.cols.length : Int) == 0) = true := by simp [he]
    clear hnm hx1 he
    go_wp2
    go_ret
    exact ⟨by rw [HF.out]; rfl, HX1.out⟩
  have hl0 : ((t.cols.length : Int) == 0) = false := by simpa using he
  have HN := Lib.hid hnm
  have HE := Lib.hid he
  clear hnm he hx1
  go_wp2_with fail
  refine (value_Right d (tabV t.cols t.rows) A B c e _ S ((H.out.keep (HX1.out.kept S)).val) hcap).mono ?_
  rintro e1 w2 ⟨rfl, hx2⟩
  rw [rightB_tab]
  obtain ⟨hc2, hf2⟩ := bcell hx2
  have hz3 : w.heap.size < w2.heap.size := by have := hx2.size; omega
  have HX2 := Lib.hid (HX1.out.trans hx2)
  cases htb : tableR t.cols t.rows
  · have HF := Lib.hid (show lookR t = false by simp [lookR, htb])
    clear htb hx2
    go_wp2
    go_ret
    exact ⟨by rw [HF.out]; rfl, HX2.out⟩
  have HTB := Lib.hid htb
  have HR := Lib.hid (H.out.2.2.keep (HX2.out.kept S))
  have g1 : w2.cell? ⟨w.heap.size, 1, none⟩ = some (.slice A t.cols.length c) := by rw [hc2 _ _ hz2, hc1 _ _ (by omega)]; simp [go_sem]
  have g2 : w2.cell? ⟨w.heap.size, 2, none⟩ = some (.slice B t.rows.length e) := by rw [hc2 _ _ hz2, hc1 _ _ (by omega)]; simp [go_sem]
  clear htb hx2 hc1 hc2 hf1 hf2
  go_wp2
  go_loop [27] (fun i => ∃ k : Nat, k ≤ t.cols.length ∧ i = .int .i64 k ∧ ∀ j, j < k → kindsFrom j t.rows 0 = true) (fun i => t.cols.length - (intOf i).toNat)
  case atStart => exact ⟨0, Nat.zero_le _, rfl, by intros; omega⟩
  case round =>
    obtain ⟨k, hk, rfl, hall⟩ := hrel
    have HA := Lib.hid hall
    clear hall
    by_cases hlt : k < t.cols.length
    · go_wp2
      go_loop [33, 4] (fun i v => ∃ (m : Nat) (kd : Int), m ≤ t.rows.length ∧ i = .int .i64 m ∧ v = .int .i64 kd ∧ kindsFrom k (t.rows.drop m) kd = kindsFrom k t.rows 0) (fun i _ => t.rows.length - (intOf i).toNat)
      case atStart => exact ⟨0, 0, Nat.zero_le _, rfl, rfl, rfl⟩
      case round =>
        obtain ⟨m, kd, hm, rfl, rfl, hkf⟩ := hrel
        have HKF := Lib.hid hkf
        clear hkf
        by_cases hlt2 : m < t.rows.length
        · obtain ⟨b1, o1, A2, c2, rfl, z1, p0, hcr, hrow⟩ := HR.out.at_ hlt2
          have hll := tableR_row HTB.out hlt2
          have hkr : k < t.rows[m].length := by omega
          obtain ⟨b2, o2, A5, c5, B5, e5, rfl, z2, ⟨q0, q1, q2, q3, q4, q5, q6⟩, _, hv⟩ := hrow.at_ hkr
          have hrl2 := hrow.len
          have hdr : t.rows.drop m = t.rows[m] :: t.rows.drop (m + 1) := List.drop_eq_getElem_cons hlt2
          have hgd : (t.rows[m].getD k Val.zero) = t.rows[m][k] := getD_of _ _ _ hkr
          by_cases hk0 : t.rows[m][k].kind = 0
          · have HK := Lib.hid (show kindsFrom k (t.rows.drop (m + 1)) kd = kindsFrom k t.rows 0 by rw [← HKF.out, hdr, kindsFrom, hgd, if_pos hk0])
            have hk0' : (t.rows[m][k].kind == 0) = true := by simp [hk0]
            clear hk0 hdr hgd hrow hv hll
            go_wp2
            go_round
            case rel => exact ⟨m + 1, kd, by omega, by go_num, rfl, HK.out⟩
            case measure => simp [intOf]; omega
          · have hk0' : (t.rows[m][k].kind == 0) = false := by simp [hk0]
            by_cases hd0 : kd = 0
            · have hd0' : (kd != 0) = false := by simp [hd0]
              have HK := Lib.hid (show kindsFrom k (t.rows.drop (m + 1)) t.rows[m][k].kind = kindsFrom k t.rows 0 by rw [← HKF.out, hdr, kindsFrom, hgd, if_neg hk0, if_neg (by omega)])
              clear hk0 hdr hgd hrow hv hll hd0
              go_wp2
              go_round
              case rel => exact ⟨m + 1, _, by omega, by go_num, rfl, HK.out⟩
              case measure => simp [intOf]; omega
            · have hd0' : (kd != 0) = true := by simp [hd0]
              by_cases hdk : kd = t.rows[m][k].kind
              · have hdk' : (kd != t.rows[m][k].kind) = false := by simp [hdk]
                have HK := Lib.hid (show kindsFrom k (t.rows.drop (m + 1)) t.rows[m][k].kind = kindsFrom k t.rows 0 by rw [← HKF.out, hdr, kindsFrom, hgd, if_neg hk0, if_neg (by omega)])
                clear hk0 hdr hgd hrow hv hll hd0 hdk
                go_wp2
                go_round
                case rel => exact ⟨m + 1, _, by omega, by go_num, rfl, HK.out⟩
                case measure => simp [intOf]; omega
              · have hdk' : (kd != t.rows[m][k].kind) = true := by rw [bne_iff_ne]; exact hdk
                have HF := Lib.hid (show lookR t = false by
                  have : kindsFrom k t.rows 0 = false := by rw [← HKF.out, hdr, kindsFrom, hgd, if_neg hk0, if_pos ⟨hd0, hdk⟩]
                  unfold lookR
                  rw [range_not hlt this]
                  simp)
                clear hk0 hdr hgd hrow hv hll hd0 hdk
                go_wp2
                go_ret
                exact ⟨by rw [HF.out]; rfl, HX2.out⟩
        · have HK := Lib.hid (show kindsFrom k t.rows 0 = true by rw [← HKF.out, List.drop_eq_nil_of_le (by omega)]; rfl)
          go_wp2
          go_round
          case rel =>
            refine ⟨k + 1, by omega, by go_num, fun j hj => ?_⟩
            by_cases hjk : j = k
            · subst hjk; exact HK.out
            · exact HA.out j (by omega)
          case measure => simp [intOf]; omega
    · have HF := Lib.hid (show lookR t = true by
        unfold lookR
        rw [HN.out, HTB.out, range_all (fun j hj => HA.out j (by omega))]
        simp [HE.out])
      go_wp2
      go_ret
      exact ⟨by rw [HF.out]; rfl, HX2.out⟩
end Go.Proofs.YtcmmkeiiapbgcaaGreatDoor
