/- The reference's Holds. Conditions: the arguments read as data. -/
import Derived.Test.YtcmmkeiiapbgcaaGreatDoorRef1
import Derived.Test.YtcmmkeiiapbgcaaGreatDoorLin3
namespace Go.Proofs.YtcmmkeiiapbgcaaGreatDoor
open Go Go.RowKit

def pairOK (cols : List ByteArray) (rows : List (List Val)) (frm : List ByteArray) (x : ByteArray) (a b : Nat) : Prop := ∀ (ha : a < rows.length) (hb : b < rows.length), (∀ f ∈ frm, eqAt (idxS cols f).toNat rows[a] rows[b] = true) → eqAt (idxS cols x).toNat rows[a] rows[b] = true
theorem eqAt_comm (c : Nat) (r o : List Val) : eqAt c r o = eqAt c o r := by unfold eqAt; rw [Bool.eq_iff_iff]; simp only [decide_eq_true_eq]; exact eq_comm
theorem eqAt_self (c : Nat) (r : List Val) : eqAt c r r = true := by simp [eqAt]
theorem holdsS_pairs {cols : List ByteArray} {rows : List (List Val)} {frm : List ByteArray} {x : ByteArray} (h1 : x ∈ cols) (h2 : regB cols rows = true) (h3 : ∀ f ∈ frm, f ∈ cols) (h4 : ∀ a b, b < a → pairOK cols rows frm x a b) : holdsS cols rows frm x = true := by
  refine holdsS_iff.2 ⟨h1, h2, h3, fun r hr o ho hf => ?_⟩
  obtain ⟨a, ha, rfl⟩ := List.getElem_of_mem hr
  obtain ⟨b, hb, rfl⟩ := List.getElem_of_mem ho
  rcases Nat.lt_trichotomy a b with h | h | h
  · rw [eqAt_comm]
    exact h4 b a h hb ha fun f hf' => by rw [eqAt_comm]; exact hf f hf'
  · subst h; exact eqAt_self _ _
  · exact h4 a b h ha hb hf
theorem holdsS_no {cols : List ByteArray} {rows : List (List Val)} {frm : List ByteArray} {x : ByteArray} (h : ¬ (x ∈ cols ∧ regB cols rows = true ∧ (∀ f ∈ frm, f ∈ cols) ∧ ∀ a b, b < a → pairOK cols rows frm x a b)) : holdsS cols rows frm x = false := by
  rw [Bool.eq_false_iff]
  intro e
  obtain ⟨h1, h2, h3, h4⟩ := holdsS_iff.1 e
  exact h ⟨h1, h2, h3, fun a b _ ha hb hf => h4 _ (List.getElem_mem ha) _ (List.getElem_mem hb) hf⟩
theorem reg_row {cols : List ByteArray} {rows : List (List Val)} (h : regB cols rows = true) {i : Nat} (hi : i < rows.length) : rows[i].length = cols.length := by
  unfold regB at h
  rw [List.all_eq_true] at h
  simpa using h _ (List.getElem_mem hi)
theorem two_cells {w : World} {T : Nat → Prop} {q : Nat} {B : Option Addr} {rows : List (List Val)} {i j m : Nat} (h : Rows w T q B rows) (hi : i < rows.length) (hj : j < rows.length) (hmi : m < rows[i].length) (hmj : m < rows[j].length) :
    ∃ bB oB bi oi ei bj oj ej A1 c1 B1 e1 A2 c2 B2 e2, B = some ⟨bB, oB, none⟩ ∧ w.cell? ⟨bB, oB + i, none⟩ = some (.slice (some ⟨bi, oi, none⟩) rows[i].length ei) ∧ (w.cell? ⟨bi, oi + m * 7, none⟩ = some (.int .i64 rows[i][m].kind) ∧ w.cell? ⟨bi, oi + m * 7 + 1, none⟩ = some (.string rows[i][m].s) ∧ w.cell? ⟨bi, oi + m * 7 + 2, none⟩ = some (.int .i64 rows[i][m].dn) ∧ w.cell? ⟨bi, oi + m * 7 + 3, none⟩ = some (.int .i64 rows[i][m].ds) ∧ w.cell? ⟨bi, oi + m * 7 + 4, none⟩ = some (.int .i64 rows[i][m].n) ∧ w.cell? ⟨bi, oi + m * 7 + 5, none⟩ = some (.slice A1 rows[i][m].cols.length c1) ∧ w.cell? ⟨bi, oi + m * 7 + 6, none⟩ = some (.slice B1 rows[i][m].rows.length e1)) ∧ RV w T q rows[i][m] A1 B1 ∧
      w.cell? ⟨bB, oB + j, none⟩ = some (.slice (some ⟨bj, oj, none⟩) rows[j].length ej) ∧ (w.cell? ⟨bj, oj + m * 7, none⟩ = some (.int .i64 rows[j][m].kind) ∧ w.cell? ⟨bj, oj + m * 7 + 1, none⟩ = some (.string rows[j][m].s) ∧ w.cell? ⟨bj, oj + m * 7 + 2, none⟩ = some (.int .i64 rows[j][m].dn) ∧ w.cell? ⟨bj, oj + m * 7 + 3, none⟩ = some (.int .i64 rows[j][m].ds) ∧ w.cell? ⟨bj, oj + m * 7 + 4, none⟩ = some (.int .i64 rows[j][m].n) ∧ w.cell? ⟨bj, oj + m * 7 + 5, none⟩ = some (.slice A2 rows[j][m].cols.length c2) ∧ w.cell? ⟨bj, oj + m * 7 + 6, none⟩ = some (.slice B2 rows[j][m].rows.length e2)) ∧ RV w T q rows[j][m] A2 B2 := by
  obtain ⟨bB, oB, Ci, ei, hB, _, q1, _, r1⟩ := h.at_ hi
  obtain ⟨bB', oB', Cj, ej, hB', _, q2, _, r2⟩ := h.at_ hj
  obtain ⟨rfl, rfl⟩ : bB' = bB ∧ oB' = oB := by rw [hB] at hB'; injection hB' with hB'; injection hB' with h1 h2; exact ⟨h1.symm, h2.symm⟩
  obtain ⟨bi, oi, A1, c1, B1, e1, rfl, _, p1, _, v1⟩ := r1.at_ hmi
  obtain ⟨bj, oj, A2, c2, B2, e2, rfl, _, p2, _, v2⟩ := r2.at_ hmj
  exact ⟨_, _, bi, oi, ei, bj, oj, ej, A1, c1, B1, e1, A2, c2, B2, e2, hB, q1, p1, v1.up (by omega), q2, p2, v2.up (by omega)⟩
theorem eqAt_at {rows : List (List Val)} {i j m : Nat} (hi : i < rows.length) (hj : j < rows.length) (hmi : m < rows[i].length) (hmj : m < rows[j].length) : eqAt m rows[i] rows[j] = decide (rows[i][m] = rows[j][m]) := by
  unfold eqAt
  rw [Bool.eq_iff_iff]
  simp [hmi, hmj]
  exact eq_comm
def vH21 (bB : Nat) (oB : Nat) (n : Nat) (cb : Nat) (ii : Nat) (jj : Nat) (m : Nat) (li : Nat) (ei : Nat) (lj : Nat) (ej : Nat) (bi : Nat) (oi : Nat) (bj : Nat) (oj : Nat) (x : Val) (y : Val) (A1 : Option Addr) (c1 : Nat) (B1 : Option Addr) (e1 : Nat) (A2 : Option Addr) (c2 : Nat) (B2 : Option Addr) (e2 : Nat) (z : Bool) : Nat → Value
  | 0 => .slice (some ⟨bB, oB, none⟩) n cb
  | 1 => .int .i64 (ii : Int)
  | 2 => .pointer (some ⟨bB, oB + ii, none⟩)
  | 3 => .slice (some ⟨bi, oi, none⟩) li ei
  | 4 => .int .i64 (m : Int)
  | 5 => .pointer (some ⟨bi, oi + m * 7, none⟩)
  | 6 => (.agg #[.int .i64 x.kind, .string x.s, .int .i64 x.dn, .int .i64 x.ds, .int .i64 x.n, .slice A1 x.cols.length c1, .slice B1 x.rows.length e1])
  | 7 => .slice (some ⟨bB, oB, none⟩) n cb
  | 8 => .int .i64 (jj : Int)
  | 9 => .pointer (some ⟨bB, oB + jj, none⟩)
  | 10 => .slice (some ⟨bj, oj, none⟩) lj ej
  | 11 => .int .i64 (m : Int)
  | 12 => .pointer (some ⟨bj, oj + m * 7, none⟩)
  | 13 => (.agg #[.int .i64 y.kind, .string y.s, .int .i64 y.dn, .int .i64 y.ds, .int .i64 y.n, .slice A2 y.cols.length c2, .slice B2 y.rows.length e2])
  | 14 => .bool z
  | 15 => .bool z
  | _ => undef
def gH21 (bB : Nat) (oB : Nat) (n : Nat) (cb : Nat) (ii : Nat) (jj : Nat) (m : Nat) (li : Nat) (ei : Nat) (lj : Nat) (ej : Nat) (bi : Nat) (oi : Nat) (bj : Nat) (oj : Nat) (x : Val) (y : Val) (A1 : Option Addr) (c1 : Nat) (B1 : Option Addr) (e1 : Nat) (A2 : Option Addr) (c2 : Nat) (B2 : Option Addr) (e2 : Nat) (z : Bool) (i : Nat) (l : List Value) (γ : Gh) (w' : World) : Prop := match l with
  | [v] => v = vH21 bB oB n cb ii jj m li ei lj ej bi oi bj oj x y A1 c1 B1 e1 A2 c2 B2 e2 z i
  | _ => True
theorem gH21_st (bB : Nat) (oB : Nat) (n : Nat) (cb : Nat) (ii : Nat) (jj : Nat) (m : Nat) (li : Nat) (ei : Nat) (lj : Nat) (ej : Nat) (bi : Nat) (oi : Nat) (bj : Nat) (oj : Nat) (x : Val) (y : Val) (A1 : Option Addr) (c1 : Nat) (B1 : Option Addr) (e1 : Nat) (A2 : Option Addr) (c2 : Nat) (B2 : Option Addr) (e2 : Nat) (z : Bool) : ∀ i l γ w γ' w', LR γ w γ' w' → gH21 bB oB n cb ii jj m li ei lj ej bi oi bj oj x y A1 c1 B1 e1 A2 c2 B2 e2 z i l γ w → gH21 bB oB n cb ii jj m li ei lj ej bi oi bj oj x y A1 c1 B1 e1 A2 c2 B2 e2 z i l γ' w' := by
  intro i l γ w γ' w' r h
  match l, h with
  | [v], h =>
    unfold gH21 at h ⊢
    exact h
  | [], _ => trivial
  | _ :: _ :: _, _ => trivial
def vH22 (bB : Nat) (oB : Nat) (n : Nat) (cb : Nat) (ii : Nat) (jj : Nat) (m : Nat) (li : Nat) (ei : Nat) (lj : Nat) (ej : Nat) (bi : Nat) (oi : Nat) (bj : Nat) (oj : Nat) (x : Val) (y : Val) (A1 : Option Addr) (c1 : Nat) (B1 : Option Addr) (e1 : Nat) (A2 : Option Addr) (c2 : Nat) (B2 : Option Addr) (e2 : Nat) (z : Bool) : Nat → Value
  | 0 => .slice (some ⟨bB, oB, none⟩) n cb
  | 1 => .int .i64 (ii : Int)
  | 2 => .pointer (some ⟨bB, oB + ii, none⟩)
  | 3 => .slice (some ⟨bi, oi, none⟩) li ei
  | 4 => .int .i64 (m : Int)
  | 5 => .pointer (some ⟨bi, oi + m * 7, none⟩)
  | 6 => (.agg #[.int .i64 x.kind, .string x.s, .int .i64 x.dn, .int .i64 x.ds, .int .i64 x.n, .slice A1 x.cols.length c1, .slice B1 x.rows.length e1])
  | 7 => .slice (some ⟨bB, oB, none⟩) n cb
  | 8 => .int .i64 (jj : Int)
  | 9 => .pointer (some ⟨bB, oB + jj, none⟩)
  | 10 => .slice (some ⟨bj, oj, none⟩) lj ej
  | 11 => .int .i64 (m : Int)
  | 12 => .pointer (some ⟨bj, oj + m * 7, none⟩)
  | 13 => (.agg #[.int .i64 y.kind, .string y.s, .int .i64 y.dn, .int .i64 y.ds, .int .i64 y.n, .slice A2 y.cols.length c2, .slice B2 y.rows.length e2])
  | 14 => .bool z
  | 15 => .bool z
  | _ => undef
def gH22 (bB : Nat) (oB : Nat) (n : Nat) (cb : Nat) (ii : Nat) (jj : Nat) (m : Nat) (li : Nat) (ei : Nat) (lj : Nat) (ej : Nat) (bi : Nat) (oi : Nat) (bj : Nat) (oj : Nat) (x : Val) (y : Val) (A1 : Option Addr) (c1 : Nat) (B1 : Option Addr) (e1 : Nat) (A2 : Option Addr) (c2 : Nat) (B2 : Option Addr) (e2 : Nat) (z : Bool) (i : Nat) (l : List Value) (γ : Gh) (w' : World) : Prop := match l with
  | [v] => v = vH22 bB oB n cb ii jj m li ei lj ej bi oi bj oj x y A1 c1 B1 e1 A2 c2 B2 e2 z i
  | _ => True
theorem gH22_st (bB : Nat) (oB : Nat) (n : Nat) (cb : Nat) (ii : Nat) (jj : Nat) (m : Nat) (li : Nat) (ei : Nat) (lj : Nat) (ej : Nat) (bi : Nat) (oi : Nat) (bj : Nat) (oj : Nat) (x : Val) (y : Val) (A1 : Option Addr) (c1 : Nat) (B1 : Option Addr) (e1 : Nat) (A2 : Option Addr) (c2 : Nat) (B2 : Option Addr) (e2 : Nat) (z : Bool) : ∀ i l γ w γ' w', LR γ w γ' w' → gH22 bB oB n cb ii jj m li ei lj ej bi oi bj oj x y A1 c1 B1 e1 A2 c2 B2 e2 z i l γ w → gH22 bB oB n cb ii jj m li ei lj ej bi oi bj oj x y A1 c1 B1 e1 A2 c2 B2 e2 z i l γ' w' := by
  intro i l γ w γ' w' r h
  match l, h with
  | [v], h =>
    unfold gH22 at h ⊢
    exact h
  | [], _ => trivial
  | _ :: _ :: _, _ => trivial
set_option maxRecDepth 100000 in
set_option maxHeartbeats 2000000 in
theorem r09_Holds (q : Nat) (cols : List ByteArray) (rows : List (List Val)) (frm : List ByteArray) (x0 : ByteArray) (A B C : Option Addr) (ca cb cc : Nat) (w : World) (S T U : Nat → Prop) (hA : Strs w S A cols) (hB : Rows w T q B rows) (hC : Strs w U C frm) :
    Calls Tryz.prog 24 #[.slice A cols.length ca, .slice B rows.length cb, .agg #[.slice C frm.length cc, .string x0]] w (RetB w (holdsS cols rows frm x0)) := by
  have hcl := hA.2.1
  have hrl := hB.len
  have hfl := hC.2.1
  have HA0 := Lib.hid hA
  have HB0 := Lib.hid hB
  have HC0 := Lib.hid hC
  clear hA hB hC
  have HGB := Lib.hid (Blk.new w 52 #[.slice C frm.length cc, .string x0])
  obtain ⟨w1, hw1⟩ : ∃ w1, w1 = w.alloc (.cells #[.slice C frm.length cc, .string x0] 52) := ⟨_, rfl⟩
  have hx1 : Ext w w1 := by rw [hw1]; exact (Ext.refl _).alloc _
  have HX1 := Lib.hid hx1
  have HA := Lib.hid (HA0.out.keep (hx1.kept _))
  have HB := Lib.hid (HB0.out.keep (hx1.kept _))
  have HC := Lib.hid (HC0.out.keep (hx1.kept _))
  rw [← hw1] at HGB
  have HW1 := Lib.hid hw1
  clear hx1 hw1 HA0 HB0 HC0
  go_enter Tryz.func24, Tryz.ntmps24
  go_wp2_with fail
  rw [← HW1.out]
  refine (r09_square q cols rows A B ca cb _ T hcl HB.out).mono ?_
  rintro e1 w1' ⟨rfl, rfl⟩
  have g1 := HGB.out.cell (i := 1) rfl
  go_wp2_with fail
  refine (r09_index A ca cols x0 _ S HA.out).mono ?_
  rintro e2 w2' ⟨rfl, rfl⟩
  cases hreg : regB cols rows
  · go_wp2
    go_ret
    exact ⟨by rw [holdsS_no (fun h => by rw [hreg] at h; cases h.2.1)]; rfl, HX1.out⟩
  have HREG := Lib.hid hreg
  clear hreg
  by_cases hxm : x0 ∈ cols
  case neg =>
    have hi : idxS cols x0 = -1 := idxS_none fun j hj e => hxm (e ▸ List.getElem_mem hj)
    rw [hi]
    have HXM := Lib.hid hxm
    clear hi hxm
    go_wp2
    go_ret
    exact ⟨by rw [holdsS_no (fun h => HXM.out h.1)]; rfl, HX1.out⟩
  obtain ⟨m0, hm0, hm0l, -, -⟩ := idxS_at ((idxS_mem cols x0).2 hxm)
  rw [hm0]
  have HXM := Lib.hid hxm
  have HM0 := Lib.hid hm0
  have g0 := HGB.out.cell (i := 0) rfl
  clear hxm hm0 g1
  have hm00 : decide ((m0 : Int) < 0) = false := by simp
  go_wp2
  clear hm00
  go_loop [9] (fun i => ∃ k : Nat, k ≤ frm.length ∧ i = .int .i64 k ∧ ∀ j (h : j < frm.length), j < k → frm[j] ∈ cols) (fun i => frm.length - (intOf i).toNat)
  case atStart => exact ⟨0, Nat.zero_le _, rfl, by intros; omega⟩
  case round =>
    obtain ⟨k, hk, rfl, hall⟩ := hrel
    have HFA := Lib.hid hall
    clear hall
    by_cases hlt : k < frm.length
    · obtain ⟨b1, o1, hC1, z1, q1⟩ := HC.out.at_ hlt
      subst hC1
      by_cases hfm : frm[k] ∈ cols
      · obtain ⟨m1, hm1, -, -, -⟩ := idxS_at ((idxS_mem cols frm[k]).2 hfm)
        have HFM := Lib.hid hfm
        have HM1 := Lib.hid hm1
        clear hfm hm1
        go_wp2_with fail
        refine (r09_index A ca cols frm[k] _ S HA.out).mono ?_
        rintro e2 w2' ⟨rfl, rfl⟩
        rw [HM1.out]
        have hm00 : decide ((m1 : Int) < 0) = false := by simp
        go_wp2
        go_round
        case rel =>
          refine ⟨k + 1, by omega, by go_num, fun j h hj => ?_⟩
          by_cases hjk : j = k
          · subst hjk; exact HFM.out
          · exact HFA.out j h (by omega)
        case measure => simp [intOf]; omega
      · have HFM := Lib.hid hfm
        have hi : idxS cols frm[k] = -1 := idxS_none fun j hj e => hfm (e ▸ List.getElem_mem hj)
        have HI := Lib.hid hi
        clear hfm hi
        go_wp2_with fail
        refine (r09_index A ca cols frm[k] _ S HA.out).mono ?_
        rintro e2 w2' ⟨rfl, rfl⟩
        rw [HI.out]
        go_wp2
        go_ret
        exact ⟨by rw [holdsS_no (fun h => HFM.out (h.2.2.1 _ (List.getElem_mem hlt)))]; rfl, HX1.out⟩
    · have hfc : ∀ f ∈ frm, f ∈ cols := fun f hf => by
        obtain ⟨j, hj, rfl⟩ := List.getElem_of_mem hf
        exact HFA.out j hj (by omega)
      have HFC := Lib.hid hfc
      clear hfc HFA
      go_wp2
      go_loopw [10] (fun v wr => ∃ i : Nat, i ≤ rows.length ∧ v = .int .i64 i ∧ Ext w1 wr ∧ ∀ a b, a < i → b < a → pairOK cols rows frm x0 a b) (fun v _ => rows.length - (intOf v).toNat)
      case atStart => exact ⟨0, Nat.zero_le _, rfl, Ext.refl _, fun a b h => absurd h (by omega)⟩
      case round =>
        obtain ⟨i, hi, rfl, hext, hpr⟩ := hrel
        have HE := Lib.hid hext
        have HPR := Lib.hid hpr
        clear hext hpr
        by_cases hlti : i < rows.length
        · go_wp2
          go_loopw [11] (fun v wr => ∃ j : Nat, j ≤ i ∧ v = .int .i64 j ∧ Ext w1 wr ∧ ∀ b, b < j → pairOK cols rows frm x0 i b) (fun v _ => i - (intOf v).toNat)
          case atStart => exact ⟨0, Nat.zero_le _, rfl, HE.out, fun b h => absurd h (by omega)⟩
          case round =>
            clear HE
            obtain ⟨j, hj, rfl, hext, hpj⟩ := hrel
            have HE := Lib.hid hext
            have HPJ := Lib.hid hpj
            clear hext hpj
            by_cases hltj : j < i
            · have hltj' : j < rows.length := by omega
              go_wp2
              go_loopw [13, 12] (fun v u wr => ∃ (k : Nat) (sm : Bool), k ≤ frm.length ∧ v = .int .i64 k ∧ u = .bool sm ∧ sm = (frm.take k).all (fun f => eqAt (idxS cols f).toNat rows[i] rows[j]) ∧ Ext w1 wr) (fun v _ _ => frm.length - (intOf v).toNat)
              case atStart => exact ⟨0, true, Nat.zero_le _, rfl, rfl, rfl, HE.out⟩
              case round =>
                clear HE
                obtain ⟨k, sm, hk2, rfl, rfl, hsm, hext⟩ := hrel
                have HE := Lib.hid hext
                have HSM := Lib.hid hsm
                clear hext hsm
                have g0 := HE.out.cell (HGB.out.cell (i := 0) rfl)
                by_cases hltk : k < frm.length
                · cases sm
                  · have hsame : frm.all (fun f => eqAt (idxS cols f).toNat rows[i] rows[j]) = false := by
                      rw [← List.take_append_drop k frm, List.all_append, ← HSM.out]; rfl
                    have HSA := Lib.hid hsame
                    clear hsame HSM
                    go_upto_region 22 with fail
                    obtain ⟨bB, oB, bi, oi, ei, bj, oj, ej, A1, c1, B1, e1, A2, c2, B2, e2, hBB, qi, pi, vi, qj, pj, vj⟩ := two_cells (i := i) (j := j) (m := m0) (HB.out.keep (HE.out.kept _)) hlti hltj' (by rw [reg_row HREG.out hlti]; exact hm0l) (by rw [reg_row HREG.out hltj']; exact hm0l)
                    subst hBB
                    obtain ⟨x, hx⟩ : ∃ x, x = rows[i][m0]'(by rw [reg_row HREG.out hlti]; exact hm0l) := ⟨_, rfl⟩
                    obtain ⟨y, hy⟩ : ∃ y, y = rows[j][m0]'(by rw [reg_row HREG.out hltj']; exact hm0l) := ⟨_, rfl⟩
                    rw [← hx] at pi vi
                    rw [← hy] at pj vj
                    obtain ⟨z, hz⟩ : ∃ z, z = decide (x = y) := ⟨_, rfl⟩
                    have HZQ := Lib.hid (show z = eqAt m0 rows[i] rows[j] by rw [eqAt_at hlti hltj' (by rw [reg_row HREG.out hlti]; exact hm0l) (by rw [reg_row HREG.out hltj']; exact hm0l), ← hx, ← hy]; exact hz)
                    have HQI := Lib.hid qi
                    have HQJ := Lib.hid qj
                    have HPI := Lib.hid pi
                    have HPJ0 := HPJ
                    have HPJ := Lib.hid pj
                    have HVI := Lib.hid vi
                    have HVJ := Lib.hid vj
                    have HZ := Lib.hid hz
                    have hli : m0 < rows[i].length := by rw [reg_row HREG.out hlti]; exact hm0l
                    have hlj : m0 < rows[j].length := by rw [reg_row HREG.out hltj']; exact hm0l
                    clear qi pi vi qj pj vj hx hy hz
                    obtain ⟨m, rfl⟩ : ∃ m, m = m0 := ⟨_, rfl⟩
                    refine wp_region_lin_lit (by kernel_rfl) (fun i => [i]) (by kernel_rfl) LR LR.refl LR.trans (LN (al0)) (gH22 bB oB rows.length cb i j m rows[i].length ei rows[j].length ej bi oi bj oj x y A1 c1 B1 e1 A2 c2 B2 e2 z) (gH22_st _ _ _ _ _ _ _ _ _ _ _ _ _ _ _ _ _ _ _ _ _ _ _ _ _ _) gh0 (LN.zero _) ⟨?_, ?_, ?_, ?_, ?_, ?_, ?_, ?_, ?_, ?_, ?_, ?_, ?_, ?_, ?_, ?_, trivial⟩ ?_
                    · refine LinStep.yes fun vals γ w' ρ hR hN hp hρ hc hf hg => ⟨rfl, ?_⟩
                      have e1 : ρ (.tmp 1) = .slice (some ⟨bB, oB, none⟩) rows.length cb := hρ 1
                      have hx := hR.drew_ext
                      have HR := Lib.hid hR
                      have HN := Lib.hid hN
                      clear hR hN hp hρ hx
                      go_light
                      go_simp
                      exact ⟨γ, LR.refl _ _, fun _ _ _ h => h, rfl⟩
                    · refine LinStep.yes fun vals γ w' ρ hR hN hp hρ hc hf hg => ⟨rfl, ?_⟩
                      have e10 : ρ (.tmp 10) = .int .i64 (i : Int) := hρ 10
                      have hx := hR.drew_ext
                      have HR := Lib.hid hR
                      have HN := Lib.hid hN
                      clear hR hN hp hρ hx
                      go_light
                      go_simp
                      exact ⟨γ, LR.refl _ _, fun _ _ _ h => h, rfl⟩
                    · refine LinStep.yes fun vals γ w' ρ hR hN hp hρ hc hf hg => ⟨rfl, ?_⟩
                      have e87 : ρ (.tmp 87) = .slice (some ⟨bB, oB, none⟩) rows.length cb := (hρ 87).trans (hp 0 (by decide))
                      have e88 : ρ (.tmp 88) = .int .i64 (i : Int) := (hρ 88).trans (hp 1 (by decide))
                      have hx := hR.drew_ext
                      have i0 : (0 : Int) ≤ (i : Int) := by omega
                      have i1 : (i : Int) < (rows.length : Int) := by omega
                      have HR := Lib.hid hR
                      have HN := Lib.hid hN
                      clear hR hN hp hρ hx
                      go_light
                      go_simp
                      exact ⟨γ, LR.refl _ _, fun _ _ _ h => h, rfl⟩
                    · refine LinStep.yes fun vals γ w' ρ hR hN hp hρ hc hf hg => ⟨rfl, ?_⟩
                      have e89 : ρ (.tmp 89) = .pointer (some ⟨bB, oB + i, none⟩) := (hρ 89).trans (hp 2 (by decide))
                      have hx := hR.drew_ext
                      have p1 := hx.cell HQI.out
                      have HR := Lib.hid hR
                      have HN := Lib.hid hN
                      clear hR hN hp hρ hx
                      go_light
                      go_simp
                      exact ⟨γ, LR.refl _ _, fun _ _ _ h => h, rfl⟩
                    · refine LinStep.yes fun vals γ w' ρ hR hN hp hρ hc hf hg => ⟨rfl, ?_⟩
                      have e8 : ρ (.tmp 8) = .int .i64 (m : Int) := hρ 8
                      have hx := hR.drew_ext
                      have HR := Lib.hid hR
                      have HN := Lib.hid hN
                      clear hR hN hp hρ hx
                      go_light
                      go_simp
                      exact ⟨γ, LR.refl _ _, fun _ _ _ h => h, rfl⟩
                    · refine LinStep.yes fun vals γ w' ρ hR hN hp hρ hc hf hg => ⟨rfl, ?_⟩
                      have e90 : ρ (.tmp 90) = .slice (some ⟨bi, oi, none⟩) rows[i].length ei := (hρ 90).trans (hp 3 (by decide))
                      have e91 : ρ (.tmp 91) = .int .i64 (m : Int) := (hρ 91).trans (hp 4 (by decide))
                      have hx := hR.drew_ext
                      have i0 : (0 : Int) ≤ (m : Int) := by omega
                      have i1 : (m : Int) < (rows[i].length : Int) := by omega
                      have HR := Lib.hid hR
                      have HN := Lib.hid hN
                      clear hR hN hp hρ hx
                      go_light
                      go_simp
                      exact ⟨γ, LR.refl _ _, fun _ _ _ h => h, rfl⟩
                    · refine LinStep.yes fun vals γ w' ρ hR hN hp hρ hc hf hg => ⟨rfl, ?_⟩
                      have e92 : ρ (.tmp 92) = .pointer (some ⟨bi, oi + m * 7, none⟩) := (hρ 92).trans (hp 5 (by decide))
                      have hx := hR.drew_ext
                      have p0 := hx.cell HPI.out.1
                      have p1 := hx.cell HPI.out.2.1
                      have p2 := hx.cell HPI.out.2.2.1
                      have p3 := hx.cell HPI.out.2.2.2.1
                      have p4 := hx.cell HPI.out.2.2.2.2.1
                      have p5 := hx.cell HPI.out.2.2.2.2.2.1
                      have p6 := hx.cell HPI.out.2.2.2.2.2.2
                      have HR := Lib.hid hR
                      have HN := Lib.hid hN
                      clear hR hN hp hρ hx
                      go_light
                      go_simp
                      exact ⟨γ, LR.refl _ _, fun _ _ _ h => h, rfl⟩
                    · refine LinStep.yes fun vals γ w' ρ hR hN hp hρ hc hf hg => ⟨rfl, ?_⟩
                      have e1 : ρ (.tmp 1) = .slice (some ⟨bB, oB, none⟩) rows.length cb := hρ 1
                      have hx := hR.drew_ext
                      have HR := Lib.hid hR
                      have HN := Lib.hid hN
                      clear hR hN hp hρ hx
                      go_light
                      go_simp
                      exact ⟨γ, LR.refl _ _, fun _ _ _ h => h, rfl⟩
                    · refine LinStep.yes fun vals γ w' ρ hR hN hp hρ hc hf hg => ⟨rfl, ?_⟩
                      have e11 : ρ (.tmp 11) = .int .i64 (j : Int) := hρ 11
                      have hx := hR.drew_ext
                      have HR := Lib.hid hR
                      have HN := Lib.hid hN
                      clear hR hN hp hρ hx
                      go_light
                      go_simp
                      exact ⟨γ, LR.refl _ _, fun _ _ _ h => h, rfl⟩
                    · refine LinStep.yes fun vals γ w' ρ hR hN hp hρ hc hf hg => ⟨rfl, ?_⟩
                      have e94 : ρ (.tmp 94) = .slice (some ⟨bB, oB, none⟩) rows.length cb := (hρ 94).trans (hp 7 (by decide))
                      have e95 : ρ (.tmp 95) = .int .i64 (j : Int) := (hρ 95).trans (hp 8 (by decide))
                      have hx := hR.drew_ext
                      have i0 : (0 : Int) ≤ (j : Int) := by omega
                      have i1 : (j : Int) < (rows.length : Int) := by omega
                      have HR := Lib.hid hR
                      have HN := Lib.hid hN
                      clear hR hN hp hρ hx
                      go_light
                      go_simp
                      exact ⟨γ, LR.refl _ _, fun _ _ _ h => h, rfl⟩
                    · refine LinStep.yes fun vals γ w' ρ hR hN hp hρ hc hf hg => ⟨rfl, ?_⟩
                      have e96 : ρ (.tmp 96) = .pointer (some ⟨bB, oB + j, none⟩) := (hρ 96).trans (hp 9 (by decide))
                      have hx := hR.drew_ext
                      have p1 := hx.cell HQJ.out
                      have HR := Lib.hid hR
                      have HN := Lib.hid hN
                      clear hR hN hp hρ hx
                      go_light
                      go_simp
                      exact ⟨γ, LR.refl _ _, fun _ _ _ h => h, rfl⟩
                    · refine LinStep.yes fun vals γ w' ρ hR hN hp hρ hc hf hg => ⟨rfl, ?_⟩
                      have e8 : ρ (.tmp 8) = .int .i64 (m : Int) := hρ 8
                      have hx := hR.drew_ext
                      have HR := Lib.hid hR
                      have HN := Lib.hid hN
                      clear hR hN hp hρ hx
                      go_light
                      go_simp
                      exact ⟨γ, LR.refl _ _, fun _ _ _ h => h, rfl⟩
                    · refine LinStep.yes fun vals γ w' ρ hR hN hp hρ hc hf hg => ⟨rfl, ?_⟩
                      have e97 : ρ (.tmp 97) = .slice (some ⟨bj, oj, none⟩) rows[j].length ej := (hρ 97).trans (hp 10 (by decide))
                      have e98 : ρ (.tmp 98) = .int .i64 (m : Int) := (hρ 98).trans (hp 11 (by decide))
                      have hx := hR.drew_ext
                      have i0 : (0 : Int) ≤ (m : Int) := by omega
                      have i1 : (m : Int) < (rows[j].length : Int) := by omega
                      have HR := Lib.hid hR
                      have HN := Lib.hid hN
                      clear hR hN hp hρ hx
                      go_light
                      go_simp
                      exact ⟨γ, LR.refl _ _, fun _ _ _ h => h, rfl⟩
                    · refine LinStep.yes fun vals γ w' ρ hR hN hp hρ hc hf hg => ⟨rfl, ?_⟩
                      have e99 : ρ (.tmp 99) = .pointer (some ⟨bj, oj + m * 7, none⟩) := (hρ 99).trans (hp 12 (by decide))
                      have hx := hR.drew_ext
                      have p0 := hx.cell HPJ.out.1
                      have p1 := hx.cell HPJ.out.2.1
                      have p2 := hx.cell HPJ.out.2.2.1
                      have p3 := hx.cell HPJ.out.2.2.2.1
                      have p4 := hx.cell HPJ.out.2.2.2.2.1
                      have p5 := hx.cell HPJ.out.2.2.2.2.2.1
                      have p6 := hx.cell HPJ.out.2.2.2.2.2.2
                      have HR := Lib.hid hR
                      have HN := Lib.hid hN
                      clear hR hN hp hρ hx
                      go_light
                      go_simp
                      exact ⟨γ, LR.refl _ _, fun _ _ _ h => h, rfl⟩
                    · refine LinStep.yes fun vals γ w' ρ hR hN hp hρ hc hf hg => ⟨rfl, ?_⟩
                      have e93 : ρ (.tmp 93) = (.agg #[.int .i64 x.kind, .string x.s, .int .i64 x.dn, .int .i64 x.ds, .int .i64 x.n, .slice A1 x.cols.length c1, .slice B1 x.rows.length e1]) := (hρ 93).trans (hp 6 (by decide))
                      have e100 : ρ (.tmp 100) = (.agg #[.int .i64 y.kind, .string y.s, .int .i64 y.dn, .int .i64 y.ds, .int .i64 y.n, .slice A2 y.cols.length c2, .slice B2 y.rows.length e2]) := (hρ 100).trans (hp 13 (by decide))
                      have hx := hR.drew_ext
                      have HR := Lib.hid hR
                      have HN := Lib.hid hN
                      clear hR hN hp hρ hx
                      go_light
                      go_simp
                      refine (r06_Equal q x y A1 B1 A2 B2 c1 e1 c2 e2 _ T T (HVI.out.keep (HR.out.drew_ext.kept _)) (HVJ.out.keep (HR.out.drew_ext.kept _))).mono ?_
                      rintro e' w3 ⟨he, hx⟩
                      rw [← HZ.out] at he
                      exact ⟨_, he, γ, LR.of_ext γ hx, fun _ _ _ h => h, rfl⟩
                    · refine LinStep.yes fun vals γ w' ρ hR hN hp hρ hc hf hg => ⟨rfl, ?_⟩
                      have e101 : ρ (.tmp 101) = .bool z := (hρ 101).trans (hp 14 (by decide))
                      have hx := hR.drew_ext
                      have HR := Lib.hid hR
                      have HN := Lib.hid hN
                      clear hR hN hp hρ hx
                      go_light
                      go_simp
                      exact ⟨γ, LR.refl _ _, fun _ _ _ h => h, rfl⟩
                    · intro vals γ w' hR hG
                      have h15 : vals 15 = .bool z := hG 15 (by decide)
                      have HX9 := Lib.hid hR.drew_ext
                      clear hR hG
                      simp only [lexFrame, Act.put, List.setIfInBounds_toArray, List.set_cons_succ, List.set_cons_zero, Nat.zero_add, Nat.reduceAdd, h15]
                      clear h15
                      go_wp2
                      go_roundw
                      case rel =>
                        refine ⟨j + 1, by omega, by go_num, HE.out.trans HX9.out, fun b hb => ?_⟩
                        by_cases hbj : b = j
                        · subst hbj
                          intro ha hb2 hf
                          exact absurd (List.all_eq_true.2 hf) (by rw [HSA.out]; simp)
                        · exact HPJ0.out b (by omega)
                      case measure => simp [intOf]; omega
                  · obtain ⟨b1, o1, hC1, z1, q1⟩ := (HC.out.keep (HE.out.kept _)).at_ hltk
                    subst hC1
                    obtain ⟨m1, hm1, hm1l, -, -⟩ := idxS_at ((idxS_mem cols frm[k]).2 (HFC.out _ (List.getElem_mem hltk)))
                    have HM1 := Lib.hid hm1
                    clear hm1
                    go_wp2_with fail
                    refine (r09_index A ca cols frm[k] _ S (HA.out.keep (HE.out.kept _))).mono ?_
                    rintro e2 w2' ⟨rfl, rfl⟩
                    rw [HM1.out]
                    go_upto_region 21 with fail
                    obtain ⟨bB, oB, bi, oi, ei, bj, oj, ej, A1, c1, B1, e1, A2, c2, B2, e2, hBB, qi, pi, vi, qj, pj, vj⟩ := two_cells (i := i) (j := j) (m := m1) (HB.out.keep (HE.out.kept _)) hlti hltj' (by rw [reg_row HREG.out hlti]; exact hm1l) (by rw [reg_row HREG.out hltj']; exact hm1l)
                    subst hBB
                    obtain ⟨x, hx⟩ : ∃ x, x = rows[i][m1]'(by rw [reg_row HREG.out hlti]; exact hm1l) := ⟨_, rfl⟩
                    obtain ⟨y, hy⟩ : ∃ y, y = rows[j][m1]'(by rw [reg_row HREG.out hltj']; exact hm1l) := ⟨_, rfl⟩
                    rw [← hx] at pi vi
                    rw [← hy] at pj vj
                    obtain ⟨z, hz⟩ : ∃ z, z = decide (x = y) := ⟨_, rfl⟩
                    have HZQ := Lib.hid (show z = eqAt m1 rows[i] rows[j] by rw [eqAt_at hlti hltj' (by rw [reg_row HREG.out hlti]; exact hm1l) (by rw [reg_row HREG.out hltj']; exact hm1l), ← hx, ← hy]; exact hz)
                    have HQI := Lib.hid qi
                    have HQJ := Lib.hid qj
                    have HPI := Lib.hid pi
                    have HPJ0 := HPJ
                    have HPJ := Lib.hid pj
                    have HVI := Lib.hid vi
                    have HVJ := Lib.hid vj
                    have HZ := Lib.hid hz
                    have hli : m1 < rows[i].length := by rw [reg_row HREG.out hlti]; exact hm1l
                    have hlj : m1 < rows[j].length := by rw [reg_row HREG.out hltj']; exact hm1l
                    clear qi pi vi qj pj vj hx hy hz
                    obtain ⟨m, rfl⟩ : ∃ m, m = m1 := ⟨_, rfl⟩
                    clear q1 g0
                    refine wp_region_lin_lit (by kernel_rfl) (fun i => [i]) (by kernel_rfl) LR LR.refl LR.trans (LN (al0)) (gH21 bB oB rows.length cb i j m rows[i].length ei rows[j].length ej bi oi bj oj x y A1 c1 B1 e1 A2 c2 B2 e2 z) (gH21_st _ _ _ _ _ _ _ _ _ _ _ _ _ _ _ _ _ _ _ _ _ _ _ _ _ _) gh0 (LN.zero _) ⟨?_, ?_, ?_, ?_, ?_, ?_, ?_, ?_, ?_, ?_, ?_, ?_, ?_, ?_, ?_, ?_, trivial⟩ ?_
                    · refine LinStep.yes fun vals γ w' ρ hR hN hp hρ hc hf hg => ⟨rfl, ?_⟩
                      have e1 : ρ (.tmp 1) = .slice (some ⟨bB, oB, none⟩) rows.length cb := hρ 1
                      have hx := hR.drew_ext
                      have HR := Lib.hid hR
                      have HN := Lib.hid hN
                      clear hR hN hp hρ hx
                      go_light
                      go_simp
                      exact ⟨γ, LR.refl _ _, fun _ _ _ h => h, rfl⟩
                    · refine LinStep.yes fun vals γ w' ρ hR hN hp hρ hc hf hg => ⟨rfl, ?_⟩
                      have e10 : ρ (.tmp 10) = .int .i64 (i : Int) := hρ 10
                      have hx := hR.drew_ext
                      have HR := Lib.hid hR
                      have HN := Lib.hid hN
                      clear hR hN hp hρ hx
                      go_light
                      go_simp
                      exact ⟨γ, LR.refl _ _, fun _ _ _ h => h, rfl⟩
                    · refine LinStep.yes fun vals γ w' ρ hR hN hp hρ hc hf hg => ⟨rfl, ?_⟩
                      have e72 : ρ (.tmp 72) = .slice (some ⟨bB, oB, none⟩) rows.length cb := (hρ 72).trans (hp 0 (by decide))
                      have e73 : ρ (.tmp 73) = .int .i64 (i : Int) := (hρ 73).trans (hp 1 (by decide))
                      have hx := hR.drew_ext
                      have i0 : (0 : Int) ≤ (i : Int) := by omega
                      have i1 : (i : Int) < (rows.length : Int) := by omega
                      have HR := Lib.hid hR
                      have HN := Lib.hid hN
                      clear hR hN hp hρ hx
                      go_light
                      go_simp
                      exact ⟨γ, LR.refl _ _, fun _ _ _ h => h, rfl⟩
                    · refine LinStep.yes fun vals γ w' ρ hR hN hp hρ hc hf hg => ⟨rfl, ?_⟩
                      have e74 : ρ (.tmp 74) = .pointer (some ⟨bB, oB + i, none⟩) := (hρ 74).trans (hp 2 (by decide))
                      have hx := hR.drew_ext
                      have p1 := hx.cell HQI.out
                      have HR := Lib.hid hR
                      have HN := Lib.hid hN
                      clear hR hN hp hρ hx
                      go_light
                      go_simp
                      exact ⟨γ, LR.refl _ _, fun _ _ _ h => h, rfl⟩
                    · refine LinStep.yes fun vals γ w' ρ hR hN hp hρ hc hf hg => ⟨rfl, ?_⟩
                      have e14 : ρ (.tmp 14) = .int .i64 (m : Int) := hρ 14
                      have hx := hR.drew_ext
                      have HR := Lib.hid hR
                      have HN := Lib.hid hN
                      clear hR hN hp hρ hx
                      go_light
                      go_simp
                      exact ⟨γ, LR.refl _ _, fun _ _ _ h => h, rfl⟩
                    · refine LinStep.yes fun vals γ w' ρ hR hN hp hρ hc hf hg => ⟨rfl, ?_⟩
                      have e75 : ρ (.tmp 75) = .slice (some ⟨bi, oi, none⟩) rows[i].length ei := (hρ 75).trans (hp 3 (by decide))
                      have e76 : ρ (.tmp 76) = .int .i64 (m : Int) := (hρ 76).trans (hp 4 (by decide))
                      have hx := hR.drew_ext
                      have i0 : (0 : Int) ≤ (m : Int) := by omega
                      have i1 : (m : Int) < (rows[i].length : Int) := by omega
                      have HR := Lib.hid hR
                      have HN := Lib.hid hN
                      clear hR hN hp hρ hx
                      go_light
                      go_simp
                      exact ⟨γ, LR.refl _ _, fun _ _ _ h => h, rfl⟩
                    · refine LinStep.yes fun vals γ w' ρ hR hN hp hρ hc hf hg => ⟨rfl, ?_⟩
                      have e77 : ρ (.tmp 77) = .pointer (some ⟨bi, oi + m * 7, none⟩) := (hρ 77).trans (hp 5 (by decide))
                      have hx := hR.drew_ext
                      have p0 := hx.cell HPI.out.1
                      have p1 := hx.cell HPI.out.2.1
                      have p2 := hx.cell HPI.out.2.2.1
                      have p3 := hx.cell HPI.out.2.2.2.1
                      have p4 := hx.cell HPI.out.2.2.2.2.1
                      have p5 := hx.cell HPI.out.2.2.2.2.2.1
                      have p6 := hx.cell HPI.out.2.2.2.2.2.2
                      have HR := Lib.hid hR
                      have HN := Lib.hid hN
                      clear hR hN hp hρ hx
                      go_light
                      go_simp
                      exact ⟨γ, LR.refl _ _, fun _ _ _ h => h, rfl⟩
                    · refine LinStep.yes fun vals γ w' ρ hR hN hp hρ hc hf hg => ⟨rfl, ?_⟩
                      have e1 : ρ (.tmp 1) = .slice (some ⟨bB, oB, none⟩) rows.length cb := hρ 1
                      have hx := hR.drew_ext
                      have HR := Lib.hid hR
                      have HN := Lib.hid hN
                      clear hR hN hp hρ hx
                      go_light
                      go_simp
                      exact ⟨γ, LR.refl _ _, fun _ _ _ h => h, rfl⟩
                    · refine LinStep.yes fun vals γ w' ρ hR hN hp hρ hc hf hg => ⟨rfl, ?_⟩
                      have e11 : ρ (.tmp 11) = .int .i64 (j : Int) := hρ 11
                      have hx := hR.drew_ext
                      have HR := Lib.hid hR
                      have HN := Lib.hid hN
                      clear hR hN hp hρ hx
                      go_light
                      go_simp
                      exact ⟨γ, LR.refl _ _, fun _ _ _ h => h, rfl⟩
                    · refine LinStep.yes fun vals γ w' ρ hR hN hp hρ hc hf hg => ⟨rfl, ?_⟩
                      have e79 : ρ (.tmp 79) = .slice (some ⟨bB, oB, none⟩) rows.length cb := (hρ 79).trans (hp 7 (by decide))
                      have e80 : ρ (.tmp 80) = .int .i64 (j : Int) := (hρ 80).trans (hp 8 (by decide))
                      have hx := hR.drew_ext
                      have i0 : (0 : Int) ≤ (j : Int) := by omega
                      have i1 : (j : Int) < (rows.length : Int) := by omega
                      have HR := Lib.hid hR
                      have HN := Lib.hid hN
                      clear hR hN hp hρ hx
                      go_light
                      go_simp
                      exact ⟨γ, LR.refl _ _, fun _ _ _ h => h, rfl⟩
                    · refine LinStep.yes fun vals γ w' ρ hR hN hp hρ hc hf hg => ⟨rfl, ?_⟩
                      have e81 : ρ (.tmp 81) = .pointer (some ⟨bB, oB + j, none⟩) := (hρ 81).trans (hp 9 (by decide))
                      have hx := hR.drew_ext
                      have p1 := hx.cell HQJ.out
                      have HR := Lib.hid hR
                      have HN := Lib.hid hN
                      clear hR hN hp hρ hx
                      go_light
                      go_simp
                      exact ⟨γ, LR.refl _ _, fun _ _ _ h => h, rfl⟩
                    · refine LinStep.yes fun vals γ w' ρ hR hN hp hρ hc hf hg => ⟨rfl, ?_⟩
                      have e14 : ρ (.tmp 14) = .int .i64 (m : Int) := hρ 14
                      have hx := hR.drew_ext
                      have HR := Lib.hid hR
                      have HN := Lib.hid hN
                      clear hR hN hp hρ hx
                      go_light
                      go_simp
                      exact ⟨γ, LR.refl _ _, fun _ _ _ h => h, rfl⟩
                    · refine LinStep.yes fun vals γ w' ρ hR hN hp hρ hc hf hg => ⟨rfl, ?_⟩
                      have e82 : ρ (.tmp 82) = .slice (some ⟨bj, oj, none⟩) rows[j].length ej := (hρ 82).trans (hp 10 (by decide))
                      have e83 : ρ (.tmp 83) = .int .i64 (m : Int) := (hρ 83).trans (hp 11 (by decide))
                      have hx := hR.drew_ext
                      have i0 : (0 : Int) ≤ (m : Int) := by omega
                      have i1 : (m : Int) < (rows[j].length : Int) := by omega
                      have HR := Lib.hid hR
                      have HN := Lib.hid hN
                      clear hR hN hp hρ hx
                      go_light
                      go_simp
                      exact ⟨γ, LR.refl _ _, fun _ _ _ h => h, rfl⟩
                    · refine LinStep.yes fun vals γ w' ρ hR hN hp hρ hc hf hg => ⟨rfl, ?_⟩
                      have e84 : ρ (.tmp 84) = .pointer (some ⟨bj, oj + m * 7, none⟩) := (hρ 84).trans (hp 12 (by decide))
                      have hx := hR.drew_ext
                      have p0 := hx.cell HPJ.out.1
                      have p1 := hx.cell HPJ.out.2.1
                      have p2 := hx.cell HPJ.out.2.2.1
                      have p3 := hx.cell HPJ.out.2.2.2.1
                      have p4 := hx.cell HPJ.out.2.2.2.2.1
                      have p5 := hx.cell HPJ.out.2.2.2.2.2.1
                      have p6 := hx.cell HPJ.out.2.2.2.2.2.2
                      have HR := Lib.hid hR
                      have HN := Lib.hid hN
                      clear hR hN hp hρ hx
                      go_light
                      go_simp
                      exact ⟨γ, LR.refl _ _, fun _ _ _ h => h, rfl⟩
                    · refine LinStep.yes fun vals γ w' ρ hR hN hp hρ hc hf hg => ⟨rfl, ?_⟩
                      have e78 : ρ (.tmp 78) = (.agg #[.int .i64 x.kind, .string x.s, .int .i64 x.dn, .int .i64 x.ds, .int .i64 x.n, .slice A1 x.cols.length c1, .slice B1 x.rows.length e1]) := (hρ 78).trans (hp 6 (by decide))
                      have e85 : ρ (.tmp 85) = (.agg #[.int .i64 y.kind, .string y.s, .int .i64 y.dn, .int .i64 y.ds, .int .i64 y.n, .slice A2 y.cols.length c2, .slice B2 y.rows.length e2]) := (hρ 85).trans (hp 13 (by decide))
                      have hx := hR.drew_ext
                      have HR := Lib.hid hR
                      have HN := Lib.hid hN
                      clear hR hN hp hρ hx
                      go_light
                      go_simp
                      refine (r06_Equal q x y A1 B1 A2 B2 c1 e1 c2 e2 _ T T (HVI.out.keep (HR.out.drew_ext.kept _)) (HVJ.out.keep (HR.out.drew_ext.kept _))).mono ?_
                      rintro e' w3 ⟨he, hx⟩
                      rw [← HZ.out] at he
                      exact ⟨_, he, γ, LR.of_ext γ hx, fun _ _ _ h => h, rfl⟩
                    · refine LinStep.yes fun vals γ w' ρ hR hN hp hρ hc hf hg => ⟨rfl, ?_⟩
                      have e86 : ρ (.tmp 86) = .bool z := (hρ 86).trans (hp 14 (by decide))
                      have hx := hR.drew_ext
                      have HR := Lib.hid hR
                      have HN := Lib.hid hN
                      clear hR hN hp hρ hx
                      go_light
                      go_simp
                      exact ⟨γ, LR.refl _ _, fun _ _ _ h => h, rfl⟩
                    · intro vals γ w' hR hG
                      have h15 : vals 15 = .bool z := hG 15 (by decide)
                      have HX9 := Lib.hid hR.drew_ext
                      clear hR hG
                      simp only [lexFrame, Act.put, List.setIfInBounds_toArray, List.set_cons_succ, List.set_cons_zero, Nat.zero_add, Nat.reduceAdd, h15]
                      clear h15
                      go_wp2
                      go_roundw
                      case rel =>
                        refine ⟨k + 1, z, by omega, by go_num, rfl, ?_, HE.out.trans HX9.out⟩
                        rw [List.take_succ_eq_append_getElem hltk, List.all_append, ← HSM.out]
                        simp [HM1.out, HZQ.out]
                      case measure => simp [intOf]; omega
                · have hsame : frm.all (fun f => eqAt (idxS cols f).toNat rows[i] rows[j]) = sm := by rw [HSM.out, List.take_of_length_le (by omega)]
                  have HSA := Lib.hid hsame
                  clear hsame HSM
                  go_upto_region 22 with fail
                  obtain ⟨bB, oB, bi, oi, ei, bj, oj, ej, A1, c1, B1, e1, A2, c2, B2, e2, hBB, qi, pi, vi, qj, pj, vj⟩ := two_cells (i := i) (j := j) (m := m0) (HB.out.keep (HE.out.kept _)) hlti hltj' (by rw [reg_row HREG.out hlti]; exact hm0l) (by rw [reg_row HREG.out hltj']; exact hm0l)
                  subst hBB
                  obtain ⟨x, hx⟩ : ∃ x, x = rows[i][m0]'(by rw [reg_row HREG.out hlti]; exact hm0l) := ⟨_, rfl⟩
                  obtain ⟨y, hy⟩ : ∃ y, y = rows[j][m0]'(by rw [reg_row HREG.out hltj']; exact hm0l) := ⟨_, rfl⟩
                  rw [← hx] at pi vi
                  rw [← hy] at pj vj
                  obtain ⟨z, hz⟩ : ∃ z, z = decide (x = y) := ⟨_, rfl⟩
                  have HZQ := Lib.hid (show z = eqAt m0 rows[i] rows[j] by rw [eqAt_at hlti hltj' (by rw [reg_row HREG.out hlti]; exact hm0l) (by rw [reg_row HREG.out hltj']; exact hm0l), ← hx, ← hy]; exact hz)
                  have HQI := Lib.hid qi
                  have HQJ := Lib.hid qj
                  have HPI := Lib.hid pi
                  have HPJ0 := HPJ
                  have HPJ := Lib.hid pj
                  have HVI := Lib.hid vi
                  have HVJ := Lib.hid vj
                  have HZ := Lib.hid hz
                  have hli : m0 < rows[i].length := by rw [reg_row HREG.out hlti]; exact hm0l
                  have hlj : m0 < rows[j].length := by rw [reg_row HREG.out hltj']; exact hm0l
                  clear qi pi vi qj pj vj hx hy hz
                  obtain ⟨m, rfl⟩ : ∃ m, m = m0 := ⟨_, rfl⟩
                  refine wp_region_lin_lit (by kernel_rfl) (fun i => [i]) (by kernel_rfl) LR LR.refl LR.trans (LN (al0)) (gH22 bB oB rows.length cb i j m rows[i].length ei rows[j].length ej bi oi bj oj x y A1 c1 B1 e1 A2 c2 B2 e2 z) (gH22_st _ _ _ _ _ _ _ _ _ _ _ _ _ _ _ _ _ _ _ _ _ _ _ _ _ _) gh0 (LN.zero _) ⟨?_, ?_, ?_, ?_, ?_, ?_, ?_, ?_, ?_, ?_, ?_, ?_, ?_, ?_, ?_, ?_, trivial⟩ ?_
                  · refine LinStep.yes fun vals γ w' ρ hR hN hp hρ hc hf hg => ⟨rfl, ?_⟩
                    have e1 : ρ (.tmp 1) = .slice (some ⟨bB, oB, none⟩) rows.length cb := hρ 1
                    have hx := hR.drew_ext
                    have HR := Lib.hid hR
                    have HN := Lib.hid hN
                    clear hR hN hp hρ hx
                    go_light
                    go_simp
                    exact ⟨γ, LR.refl _ _, fun _ _ _ h => h, rfl⟩
                  · refine LinStep.yes fun vals γ w' ρ hR hN hp hρ hc hf hg => ⟨rfl, ?_⟩
                    have e10 : ρ (.tmp 10) = .int .i64 (i : Int) := hρ 10
                    have hx := hR.drew_ext
                    have HR := Lib.hid hR
                    have HN := Lib.hid hN
                    clear hR hN hp hρ hx
                    go_light
                    go_simp
                    exact ⟨γ, LR.refl _ _, fun _ _ _ h => h, rfl⟩
                  · refine LinStep.yes fun vals γ w' ρ hR hN hp hρ hc hf hg => ⟨rfl, ?_⟩
                    have e87 : ρ (.tmp 87) = .slice (some ⟨bB, oB, none⟩) rows.length cb := (hρ 87).trans (hp 0 (by decide))
                    have e88 : ρ (.tmp 88) = .int .i64 (i : Int) := (hρ 88).trans (hp 1 (by decide))
                    have hx := hR.drew_ext
                    have i0 : (0 : Int) ≤ (i : Int) := by omega
                    have i1 : (i : Int) < (rows.length : Int) := by omega
                    have HR := Lib.hid hR
                    have HN := Lib.hid hN
                    clear hR hN hp hρ hx
                    go_light
                    go_simp
                    exact ⟨γ, LR.refl _ _, fun _ _ _ h => h, rfl⟩
                  · refine LinStep.yes fun vals γ w' ρ hR hN hp hρ hc hf hg => ⟨rfl, ?_⟩
                    have e89 : ρ (.tmp 89) = .pointer (some ⟨bB, oB + i, none⟩) := (hρ 89).trans (hp 2 (by decide))
                    have hx := hR.drew_ext
                    have p1 := hx.cell HQI.out
                    have HR := Lib.hid hR
                    have HN := Lib.hid hN
                    clear hR hN hp hρ hx
                    go_light
                    go_simp
                    exact ⟨γ, LR.refl _ _, fun _ _ _ h => h, rfl⟩
                  · refine LinStep.yes fun vals γ w' ρ hR hN hp hρ hc hf hg => ⟨rfl, ?_⟩
                    have e8 : ρ (.tmp 8) = .int .i64 (m : Int) := hρ 8
                    have hx := hR.drew_ext
                    have HR := Lib.hid hR
                    have HN := Lib.hid hN
                    clear hR hN hp hρ hx
                    go_light
                    go_simp
                    exact ⟨γ, LR.refl _ _, fun _ _ _ h => h, rfl⟩
                  · refine LinStep.yes fun vals γ w' ρ hR hN hp hρ hc hf hg => ⟨rfl, ?_⟩
                    have e90 : ρ (.tmp 90) = .slice (some ⟨bi, oi, none⟩) rows[i].length ei := (hρ 90).trans (hp 3 (by decide))
                    have e91 : ρ (.tmp 91) = .int .i64 (m : Int) := (hρ 91).trans (hp 4 (by decide))
                    have hx := hR.drew_ext
                    have i0 : (0 : Int) ≤ (m : Int) := by omega
                    have i1 : (m : Int) < (rows[i].length : Int) := by omega
                    have HR := Lib.hid hR
                    have HN := Lib.hid hN
                    clear hR hN hp hρ hx
                    go_light
                    go_simp
                    exact ⟨γ, LR.refl _ _, fun _ _ _ h => h, rfl⟩
                  · refine LinStep.yes fun vals γ w' ρ hR hN hp hρ hc hf hg => ⟨rfl, ?_⟩
                    have e92 : ρ (.tmp 92) = .pointer (some ⟨bi, oi + m * 7, none⟩) := (hρ 92).trans (hp 5 (by decide))
                    have hx := hR.drew_ext
                    have p0 := hx.cell HPI.out.1
                    have p1 := hx.cell HPI.out.2.1
                    have p2 := hx.cell HPI.out.2.2.1
                    have p3 := hx.cell HPI.out.2.2.2.1
                    have p4 := hx.cell HPI.out.2.2.2.2.1
                    have p5 := hx.cell HPI.out.2.2.2.2.2.1
                    have p6 := hx.cell HPI.out.2.2.2.2.2.2
                    have HR := Lib.hid hR
                    have HN := Lib.hid hN
                    clear hR hN hp hρ hx
                    go_light
                    go_simp
                    exact ⟨γ, LR.refl _ _, fun _ _ _ h => h, rfl⟩
                  · refine LinStep.yes fun vals γ w' ρ hR hN hp hρ hc hf hg => ⟨rfl, ?_⟩
                    have e1 : ρ (.tmp 1) = .slice (some ⟨bB, oB, none⟩) rows.length cb := hρ 1
                    have hx := hR.drew_ext
                    have HR := Lib.hid hR
                    have HN := Lib.hid hN
                    clear hR hN hp hρ hx
                    go_light
                    go_simp
                    exact ⟨γ, LR.refl _ _, fun _ _ _ h => h, rfl⟩
                  · refine LinStep.yes fun vals γ w' ρ hR hN hp hρ hc hf hg => ⟨rfl, ?_⟩
                    have e11 : ρ (.tmp 11) = .int .i64 (j : Int) := hρ 11
                    have hx := hR.drew_ext
                    have HR := Lib.hid hR
                    have HN := Lib.hid hN
                    clear hR hN hp hρ hx
                    go_light
                    go_simp
                    exact ⟨γ, LR.refl _ _, fun _ _ _ h => h, rfl⟩
                  · refine LinStep.yes fun vals γ w' ρ hR hN hp hρ hc hf hg => ⟨rfl, ?_⟩
                    have e94 : ρ (.tmp 94) = .slice (some ⟨bB, oB, none⟩) rows.length cb := (hρ 94).trans (hp 7 (by decide))
                    have e95 : ρ (.tmp 95) = .int .i64 (j : Int) := (hρ 95).trans (hp 8 (by decide))
                    have hx := hR.drew_ext
                    have i0 : (0 : Int) ≤ (j : Int) := by omega
                    have i1 : (j : Int) < (rows.length : Int) := by omega
                    have HR := Lib.hid hR
                    have HN := Lib.hid hN
                    clear hR hN hp hρ hx
                    go_light
                    go_simp
                    exact ⟨γ, LR.refl _ _, fun _ _ _ h => h, rfl⟩
                  · refine LinStep.yes fun vals γ w' ρ hR hN hp hρ hc hf hg => ⟨rfl, ?_⟩
                    have e96 : ρ (.tmp 96) = .pointer (some ⟨bB, oB + j, none⟩) := (hρ 96).trans (hp 9 (by decide))
                    have hx := hR.drew_ext
                    have p1 := hx.cell HQJ.out
                    have HR := Lib.hid hR
                    have HN := Lib.hid hN
                    clear hR hN hp hρ hx
                    go_light
                    go_simp
                    exact ⟨γ, LR.refl _ _, fun _ _ _ h => h, rfl⟩
                  · refine LinStep.yes fun vals γ w' ρ hR hN hp hρ hc hf hg => ⟨rfl, ?_⟩
                    have e8 : ρ (.tmp 8) = .int .i64 (m : Int) := hρ 8
                    have hx := hR.drew_ext
                    have HR := Lib.hid hR
                    have HN := Lib.hid hN
                    clear hR hN hp hρ hx
                    go_light
                    go_simp
                    exact ⟨γ, LR.refl _ _, fun _ _ _ h => h, rfl⟩
                  · refine LinStep.yes fun vals γ w' ρ hR hN hp hρ hc hf hg => ⟨rfl, ?_⟩
                    have e97 : ρ (.tmp 97) = .slice (some ⟨bj, oj, none⟩) rows[j].length ej := (hρ 97).trans (hp 10 (by decide))
                    have e98 : ρ (.tmp 98) = .int .i64 (m : Int) := (hρ 98).trans (hp 11 (by decide))
                    have hx := hR.drew_ext
                    have i0 : (0 : Int) ≤ (m : Int) := by omega
                    have i1 : (m : Int) < (rows[j].length : Int) := by omega
                    have HR := Lib.hid hR
                    have HN := Lib.hid hN
                    clear hR hN hp hρ hx
                    go_light
                    go_simp
                    exact ⟨γ, LR.refl _ _, fun _ _ _ h => h, rfl⟩
                  · refine LinStep.yes fun vals γ w' ρ hR hN hp hρ hc hf hg => ⟨rfl, ?_⟩
                    have e99 : ρ (.tmp 99) = .pointer (some ⟨bj, oj + m * 7, none⟩) := (hρ 99).trans (hp 12 (by decide))
                    have hx := hR.drew_ext
                    have p0 := hx.cell HPJ.out.1
                    have p1 := hx.cell HPJ.out.2.1
                    have p2 := hx.cell HPJ.out.2.2.1
                    have p3 := hx.cell HPJ.out.2.2.2.1
                    have p4 := hx.cell HPJ.out.2.2.2.2.1
                    have p5 := hx.cell HPJ.out.2.2.2.2.2.1
                    have p6 := hx.cell HPJ.out.2.2.2.2.2.2
                    have HR := Lib.hid hR
                    have HN := Lib.hid hN
                    clear hR hN hp hρ hx
                    go_light
                    go_simp
                    exact ⟨γ, LR.refl _ _, fun _ _ _ h => h, rfl⟩
                  · refine LinStep.yes fun vals γ w' ρ hR hN hp hρ hc hf hg => ⟨rfl, ?_⟩
                    have e93 : ρ (.tmp 93) = (.agg #[.int .i64 x.kind, .string x.s, .int .i64 x.dn, .int .i64 x.ds, .int .i64 x.n, .slice A1 x.cols.length c1, .slice B1 x.rows.length e1]) := (hρ 93).trans (hp 6 (by decide))
                    have e100 : ρ (.tmp 100) = (.agg #[.int .i64 y.kind, .string y.s, .int .i64 y.dn, .int .i64 y.ds, .int .i64 y.n, .slice A2 y.cols.length c2, .slice B2 y.rows.length e2]) := (hρ 100).trans (hp 13 (by decide))
                    have hx := hR.drew_ext
                    have HR := Lib.hid hR
                    have HN := Lib.hid hN
                    clear hR hN hp hρ hx
                    go_light
                    go_simp
                    refine (r06_Equal q x y A1 B1 A2 B2 c1 e1 c2 e2 _ T T (HVI.out.keep (HR.out.drew_ext.kept _)) (HVJ.out.keep (HR.out.drew_ext.kept _))).mono ?_
                    rintro e' w3 ⟨he, hx⟩
                    rw [← HZ.out] at he
                    exact ⟨_, he, γ, LR.of_ext γ hx, fun _ _ _ h => h, rfl⟩
                  · refine LinStep.yes fun vals γ w' ρ hR hN hp hρ hc hf hg => ⟨rfl, ?_⟩
                    have e101 : ρ (.tmp 101) = .bool z := (hρ 101).trans (hp 14 (by decide))
                    have hx := hR.drew_ext
                    have HR := Lib.hid hR
                    have HN := Lib.hid hN
                    clear hR hN hp hρ hx
                    go_light
                    go_simp
                    exact ⟨γ, LR.refl _ _, fun _ _ _ h => h, rfl⟩
                  · intro vals γ w' hR hG
                    have h15 : vals 15 = .bool z := hG 15 (by decide)
                    have HX9 := Lib.hid hR.drew_ext
                    clear hR hG
                    simp only [lexFrame, Act.put, List.setIfInBounds_toArray, List.set_cons_succ, List.set_cons_zero, Nat.zero_add, Nat.reduceAdd, h15]
                    clear h15
                    cases sm
                    · skip
                      go_wp2
                      go_roundw
                      case rel =>
                        refine ⟨j + 1, by omega, by go_num, HE.out.trans HX9.out, fun b hb => ?_⟩
                        by_cases hbj : b = j
                        · subst hbj
                          intro ha hb2 hf
                          exact absurd (List.all_eq_true.2 hf) (by rw [HSA.out]; simp)
                        · exact HPJ0.out b (by omega)
                      case measure => simp [intOf]; omega
                    · cases z
                      · skip
                        go_wp2
                        go_ret
                        refine ⟨?_, (HX1.out.trans HE.out).trans HX9.out⟩
                        have hno : holdsS cols rows frm x0 = false := holdsS_no fun h => by
                          have hp := h.2.2.2 i j hltj hlti hltj' (fun f hf => List.all_eq_true.1 HSA.out f hf)
                          rw [HM0.out, Int.toNat_natCast, ← HZQ.out] at hp
                          cases hp
                        rw [hno]
                        rfl
                      · skip
                        go_wp2
                        go_roundw
                        case rel =>
                          refine ⟨j + 1, by omega, by go_num, HE.out.trans HX9.out, fun b hb => ?_⟩
                          by_cases hbj : b = j
                          · subst hbj
                            intro ha hb2 hf
                            rw [HM0.out, Int.toNat_natCast, ← HZQ.out]
                          · exact HPJ0.out b (by omega)
                        case measure => simp [intOf]; omega
            · go_wp2
              go_roundw
              case rel =>
                refine ⟨i + 1, by omega, by go_num, HE.out, fun a b ha hb => ?_⟩
                by_cases hai : a = i
                · subst hai; exact HPJ.out b (by omega)
                · exact HPR.out a b (by omega) hb
              case measure => simp [intOf]; omega
        · go_wp2
          go_ret
          refine ⟨?_, HX1.out.trans HE.out⟩
          rw [holdsS_pairs HXM.out HREG.out HFC.out (fun a b hb ha hb2 => HPR.out a b (by omega) hb ha hb2)]
          rfl
end Go.Proofs.YtcmmkeiiapbgcaaGreatDoor
