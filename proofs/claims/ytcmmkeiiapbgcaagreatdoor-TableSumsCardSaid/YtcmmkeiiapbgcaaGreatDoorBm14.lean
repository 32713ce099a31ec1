/- The law TableFinds: true. Conditions: the arguments read as data; the table of tens is there. -/
import Derived.Test.YtcmmkeiiapbgcaaGreatDoorBm13
namespace Go.Proofs.YtcmmkeiiapbgcaaGreatDoor
open Go Go.RowKit
theorem tdiv_bd (a n : Int) (hn : 1 ≤ n) (h : -9223372036854775808 ≤ a ∧ a ≤ 9223372036854775807) : -9223372036854775808 ≤ a.tdiv n ∧ a.tdiv n ≤ 9223372036854775807 := by
  rcases Int.le_total 0 a with h0 | h0
  · rw [Int.tdiv_eq_ediv_of_nonneg h0]
    have h1 := Int.ediv_le_self (b := n) h0 
    have h2 := Int.ediv_nonneg h0 (show 0 ≤ n by omega)
    omega
  · obtain ⟨b, rfl⟩ : ∃ b, a = -b := ⟨-a, by omega⟩
    rw [Int.neg_tdiv, Int.tdiv_eq_ediv_of_nonneg (by omega)]
    have h1 := Int.ediv_le_self (a := b) (b := n) (by omega)
    have h2 := Int.ediv_nonneg (a := b) (b := n) (by omega) (by omega)
    omega
def vF3 (gr : Nat) (r1 : Int) (kI : Nat) (kd : Int) (xv : Val) : Nat → Value
  | 1 => .pointer (some ⟨gr, 1, none⟩)
  | 2 => .int .i64 r1
  | 3 => .int .i64 (r1.tdiv 5)
  | 4 => .int .i64 ((r1.tdiv 5).tmod 3)
  | 5 => .int .i64 ((r1.tdiv 5).tmod 3 + 3)
  | 6 => .int .i64 (kI : Int)
  | 8 => .int .i64 kd
  | 9 => .pointer (some ⟨gr, 1, none⟩)
  | 10 => .int .i64 r1
  | 11 => (.agg #[.int .i64 xv.kind, .string xv.s, .int .i64 xv.dn, .int .i64 xv.ds, .int .i64 xv.n, .slice none xv.cols.length 0, .slice none xv.rows.length 0])
  | _ => undef
def gF3 (gr : Nat) (r1 : Int) (kI : Nat) (kd : Int) (xv : Val) (ix : Nat) (vl : List Value) (γ : Gh) (w' : World) : Prop := match vl with
  | [v] => if ix = 0 then (∃ g : Nat, v = .slice (some ⟨g, 0, none⟩) 3 3 ∧ Blk w' g 3 #[.int .i64 1, .int .i64 2, .int .i64 3] ∧ Free γ g) else if ix = 7 then (∃ g : Nat, v = .pointer (some ⟨g, kI, none⟩) ∧ Blk w' g 3 #[.int .i64 1, .int .i64 2, .int .i64 3] ∧ Free γ g) else if ix = 12 then (VarAt 12 33 7 v γ w') else v = vF3 gr r1 kI kd xv ix
  | [p, _] => VarIs 33 p #[.int .i64 xv.kind, .string xv.s, .int .i64 xv.dn, .int .i64 xv.ds, .int .i64 xv.n, .slice none xv.cols.length 0, .slice none xv.rows.length 0] γ w'
  | _ => True
theorem gF3_st (gr : Nat) (r1 : Int) (kI : Nat) (kd : Int) (xv : Val) : ∀ ix vl γ w γ' w', LR γ w γ' w' → gF3 gr r1 kI kd xv ix vl γ w → gF3 gr r1 kI kd xv ix vl γ' w' := by
  intro ix vl γ w γ' w' r h
  match vl, h with
  | [v], h =>
    unfold gF3 at h ⊢
    by_cases h0 : ix = 0
    · simp only [if_pos h0] at h ⊢
      obtain ⟨g, h0, h1, h2⟩ := h
      exact ⟨g, h0, r.blk h2 h1, r.free h1.lt h2⟩
    simp only [if_neg h0] at h ⊢
    by_cases h7 : ix = 7
    · simp only [if_pos h7] at h ⊢
      obtain ⟨g, h0, h1, h2⟩ := h
      exact ⟨g, h0, r.blk h2 h1, r.free h1.lt h2⟩
    simp only [if_neg h7] at h ⊢
    by_cases h12 : ix = 12
    · simp only [if_pos h12] at h ⊢
      exact VarAt.lr r h
    simp only [if_neg h12] at h ⊢
    exact h
  | [], _ => trivial
  | [p, _], h => exact VarIs.lr r h
  | _ :: _ :: _ :: _, _ => trivial
def vF4 (_gt : Nat) (_gq : Nat) (t : Look) (At : Option Addr) (ct : Nat) (Bt : Option Addr) (et : Nat) (q0 : Int) (q1 : Int) (q2 : Int) : Nat → Value
  | 0 => (.agg #[.string t.name, .slice At t.cols.length ct, .slice Bt t.rows.length et])
  | 1 => (.agg #[.string t.name, .slice At t.cols.length ct, .slice Bt t.rows.length et])
  | 2 => .agg #[.int .i64 q0, .int .i64 q1, .int .i64 q2]
  | 5 => .int .i64 2
  | 6 => .int .i64 0
  | _ => undef
def gF4 (gt : Nat) (gq : Nat) (t : Look) (At : Option Addr) (ct : Nat) (Bt : Option Addr) (et : Nat) (q0 : Int) (q1 : Int) (q2 : Int) (ix : Nat) (vl : List Value) (γ : Gh) (w' : World) : Prop := match vl with
  | [v] => if ix = 3 then (∃ (t' : Look) (A' : Option Addr) (c' : Nat) (B' : Option Addr) (e' : Nat), v = (.agg #[.string t'.name, .slice A' t'.cols.length c', .slice B' t'.rows.length e']) ∧ ((t'.cols.length ≤ c' ∧ t'.rows.length ≤ e') ∧ RL w' (Free γ) 2 t' A' B')) else if ix = 4 then (∃ (g : Nat) (t' : Look) (A' : Option Addr) (c' : Nat) (B' : Option Addr) (e' : Nat), v = .slice (some ⟨g, 0, none⟩) 2 2 ∧ (Blk w' g 28 #[.string t.name, .slice At t.cols.length ct, .slice Bt t.rows.length et, .string t'.name, .slice A' t'.cols.length c', .slice B' t'.rows.length e'] ∧ Free γ g) ∧ ((t'.cols.length ≤ c' ∧ t'.rows.length ≤ e') ∧ RL w' (Free γ) 2 t' A' B')) else v = vF4 gt gq t At ct Bt et q0 q1 q2 ix
  | _ => True
theorem gF4_st (gt : Nat) (gq : Nat) (t : Look) (At : Option Addr) (ct : Nat) (Bt : Option Addr) (et : Nat) (q0 : Int) (q1 : Int) (q2 : Int) : ∀ ix vl γ w γ' w', LR γ w γ' w' → gF4 gt gq t At ct Bt et q0 q1 q2 ix vl γ w → gF4 gt gq t At ct Bt et q0 q1 q2 ix vl γ' w' := by
  intro ix vl γ w γ' w' r h
  match vl, h with
  | [v], h =>
    unfold gF4 at h ⊢
    by_cases h3 : ix = 3
    · simp only [if_pos h3] at h ⊢
      obtain ⟨t', A', c', B', e', h0, h1, h2⟩ := h
      exact ⟨t', A', c', B', e', h0, h1, ⟨h2.1, r.strs h2.2.1, r.rows h2.2.2⟩⟩
    simp only [if_neg h3] at h ⊢
    by_cases h4 : ix = 4
    · simp only [if_pos h4] at h ⊢
      obtain ⟨g, t', A', c', B', e', h0, ⟨h3, h4⟩, h1, h2⟩ := h
      exact ⟨g, t', A', c', B', e', h0, ⟨r.blk h4 h3, r.free h3.lt h4⟩, h1, ⟨h2.1, r.strs h2.2.1, r.rows h2.2.2⟩⟩
    simp only [if_neg h4] at h ⊢
    exact h
  | [], _ => trivial
  | _ :: _ :: _, _ => trivial
def vF7 (gr : Nat) (_gv : Nat) (_gx : Nat) (r0 : Int) (r2 : Int) (xv : Val) (x : Look) (A : Option Addr) (c : Nat) (B : Option Addr) (e : Nat) (_rs : Val) (cd : Int) : Nat → Value
  | 0 => (.agg #[.string x.name, .slice A x.cols.length c, .slice B x.rows.length e])
  | 1 => .pointer (some ⟨gr, 0, none⟩)
  | 2 => .int .i64 r0
  | 3 => .string (nameS r0)
  | 4 => (.agg #[.int .i64 xv.kind, .string xv.s, .int .i64 xv.dn, .int .i64 xv.ds, .int .i64 xv.n, .slice none xv.cols.length 0, .slice none xv.rows.length 0])
  | 5 => .pointer (some ⟨gr, 2, none⟩)
  | 6 => .int .i64 r2
  | 7 => .string (nameS r2)
  | 11 => .int .i64 cd
  | 14 => .int .i64 cd
  | _ => undef
def gF7 (gr : Nat) (gv : Nat) (gx : Nat) (r0 : Int) (r2 : Int) (xv : Val) (x : Look) (A : Option Addr) (c : Nat) (B : Option Addr) (e : Nat) (rs : Val) (cd : Int) (ix : Nat) (vl : List Value) (γ : Gh) (w' : World) : Prop := match vl with
  | [v] => if ix = 8 then (∃ (A' : Option Addr) (c' : Nat) (B' : Option Addr) (e' : Nat), v = .tuple #[(.agg #[.int .i64 rs.kind, .string rs.s, .int .i64 rs.dn, .int .i64 rs.ds, .int .i64 rs.n, .slice A' rs.cols.length c', .slice B' rs.rows.length e']), .int .i64 cd] ∧ RV w' (Free γ) 2 rs A' B') else if ix = 9 then (∃ (A' : Option Addr) (c' : Nat) (B' : Option Addr) (e' : Nat), v = .tuple #[(.agg #[.int .i64 rs.kind, .string rs.s, .int .i64 rs.dn, .int .i64 rs.ds, .int .i64 rs.n, .slice A' rs.cols.length c', .slice B' rs.rows.length e']), .int .i64 cd] ∧ RV w' (Free γ) 2 rs A' B') else if ix = 10 then (∃ (A' : Option Addr) (c' : Nat) (B' : Option Addr) (e' : Nat), v = (.agg #[.int .i64 rs.kind, .string rs.s, .int .i64 rs.dn, .int .i64 rs.ds, .int .i64 rs.n, .slice A' rs.cols.length c', .slice B' rs.rows.length e']) ∧ RV w' (Free γ) 2 rs A' B') else if ix = 12 then (VarAt 12 33 7 v γ w') else v = vF7 gr gv gx r0 r2 xv x A c B e rs cd ix
  | [p, _] => ∃ (A' : Option Addr) (c' : Nat) (B' : Option Addr) (e' : Nat), VarIs 33 p #[.int .i64 rs.kind, .string rs.s, .int .i64 rs.dn, .int .i64 rs.ds, .int .i64 rs.n, .slice A' rs.cols.length c', .slice B' rs.rows.length e'] γ w' ∧ RV w' (Free γ) 2 rs A' B'
  | _ => True
theorem gF7_st (gr : Nat) (gv : Nat) (gx : Nat) (r0 : Int) (r2 : Int) (xv : Val) (x : Look) (A : Option Addr) (c : Nat) (B : Option Addr) (e : Nat) (rs : Val) (cd : Int) : ∀ ix vl γ w γ' w', LR γ w γ' w' → gF7 gr gv gx r0 r2 xv x A c B e rs cd ix vl γ w → gF7 gr gv gx r0 r2 xv x A c B e rs cd ix vl γ' w' := by
  intro ix vl γ w γ' w' r h
  match vl, h with
  | [v], h =>
    unfold gF7 at h ⊢
    by_cases h8 : ix = 8
    · simp only [if_pos h8] at h ⊢
      obtain ⟨A', c', B', e', h0, h1⟩ := h
      exact ⟨A', c', B', e', h0, r.rv h1⟩
    simp only [if_neg h8] at h ⊢
    by_cases h9 : ix = 9
    · simp only [if_pos h9] at h ⊢
      obtain ⟨A', c', B', e', h0, h1⟩ := h
      exact ⟨A', c', B', e', h0, r.rv h1⟩
    simp only [if_neg h9] at h ⊢
    by_cases h10 : ix = 10
    · simp only [if_pos h10] at h ⊢
      obtain ⟨A', c', B', e', h0, h1⟩ := h
      exact ⟨A', c', B', e', h0, r.rv h1⟩
    simp only [if_neg h10] at h ⊢
    by_cases h12 : ix = 12
    · simp only [if_pos h12] at h ⊢
      exact VarAt.lr r h
    simp only [if_neg h12] at h ⊢
    exact h
  | [], _ => trivial
  | [p, _], h => exact (by obtain ⟨A', c', B', e', h0, h1⟩ := h; exact ⟨A', c', B', e', VarIs.lr r h0, r.rv h1⟩)
  | _ :: _ :: _ :: _, _ => trivial
def vF9 (_gx : Nat) (_g1 : Nat) (_g2 : Nat) (x : Look) (A : Option Addr) (c : Nat) (B : Option Addr) (e : Nat) (rs : Val) (cd : Int) (A1 : Option Addr) (c1 : Nat) (B1 : Option Addr) (e1 : Nat) (A2 : Option Addr) (c2 : Nat) (B2 : Option Addr) (e2 : Nat) (lb : Bool) : Nat → Value
  | 0 => .int .i64 cd
  | 1 => .int .i64 cd
  | 2 => .bool false
  | 3 => .bool false
  | 4 => (.agg #[.int .i64 rs.kind, .string rs.s, .int .i64 rs.dn, .int .i64 rs.ds, .int .i64 rs.n, .slice A1 rs.cols.length c1, .slice B1 rs.rows.length e1])
  | 5 => (.agg #[.int .i64 rs.kind, .string rs.s, .int .i64 rs.dn, .int .i64 rs.ds, .int .i64 rs.n, .slice A2 rs.cols.length c2, .slice B2 rs.rows.length e2])
  | 6 => .bool true
  | 7 => .bool false
  | 8 => .bool false
  | 9 => .bool false
  | 10 => (.agg #[.string x.name, .slice A x.cols.length c, .slice B x.rows.length e])
  | 11 => .bool lb
  | 12 => (.agg #[.string x.name, .slice A x.cols.length c, .slice B x.rows.length e])
  | 13 => .bool lb
  | 14 => .bool false
  | 15 => .bool false
  | _ => undef
def gF9 (gx : Nat) (g1 : Nat) (g2 : Nat) (x : Look) (A : Option Addr) (c : Nat) (B : Option Addr) (e : Nat) (rs : Val) (cd : Int) (A1 : Option Addr) (c1 : Nat) (B1 : Option Addr) (e1 : Nat) (A2 : Option Addr) (c2 : Nat) (B2 : Option Addr) (e2 : Nat) (lb : Bool) (ix : Nat) (vl : List Value) (_γ : Gh) (_w' : World) : Prop := match vl with
  | [v] => v = vF9 gx g1 g2 x A c B e rs cd A1 c1 B1 e1 A2 c2 B2 e2 lb ix
  | _ => True
theorem gF9_st (gx : Nat) (g1 : Nat) (g2 : Nat) (x : Look) (A : Option Addr) (c : Nat) (B : Option Addr) (e : Nat) (rs : Val) (cd : Int) (A1 : Option Addr) (c1 : Nat) (B1 : Option Addr) (e1 : Nat) (A2 : Option Addr) (c2 : Nat) (B2 : Option Addr) (e2 : Nat) (lb : Bool) : ∀ ix vl γ w γ' w', LR γ w γ' w' → gF9 gx g1 g2 x A c B e rs cd A1 c1 B1 e1 A2 c2 B2 e2 lb ix vl γ w → gF9 gx g1 g2 x A c B e rs cd A1 c1 B1 e1 A2 c2 B2 e2 lb ix vl γ' w' := by
  intro ix vl γ w γ' w' r h
  match vl, h with
  | [v], h =>
    unfold gF9 at h ⊢
    exact h
  | [], _ => trivial
  | _ :: _ :: _, _ => trivial
set_option maxRecDepth 100000 in
set_option maxHeartbeats 4000000 in
theorem law_Finds (l : List Int) (q0 q1 q2 r0 r1 r2 : Int) (A : Option Addr) (c : Nat) (w : World) (S : Nat → Prop) (ht : Tens w) (hl : IntsL w S A l) (hr1 : -9223372036854775808 ≤ r1 ∧ r1 ≤ 9223372036854775807) :
    Calls Tryz.prog 3 #[.slice A l.length c, .agg #[.int .i64 q0, .int .i64 q1, .int .i64 q2], .agg #[.int .i64 r0, .int .i64 r1, .int .i64 r2]] w (RetB w true) := by
  have HT := Lib.hid ht
  have HL := Lib.hid hl
  have HQW := Lib.hid (show IntKind.i64.wrap (r1.tdiv 5) = r1.tdiv 5 from IntWalk.i64_in _ (tdiv_bd r1 5 (by omega) hr1))
  obtain ⟨kb1, kb2⟩ := next_bd (r1.tdiv 5) 3 (by omega)
  have HKW := Lib.hid (show IntKind.i64.wrap ((r1.tdiv 5).tmod 3 + 3) = (r1.tdiv 5).tmod 3 + 3 from IntWalk.i64_in _ (by omega))
  obtain ⟨kI, hkI⟩ : ∃ kI : Nat, ((r1.tdiv 5).tmod 3 + 3) % 3 = (kI : Int) := ⟨(((r1.tdiv 5).tmod 3 + 3) % 3).toNat, by omega⟩
  have hk3 : kI < 3 := by omega
  have HKE := Lib.hid (show ((r1.tdiv 5).tmod 3 + 3).tmod 3 = (kI : Int) by rw [Int.tmod_eq_emod_of_nonneg (by omega)]; exact hkI)
  obtain ⟨kd, hkd⟩ : ∃ kd : Int, kd = (kI : Int) + 1 := ⟨_, rfl⟩
  have HKD := Lib.hid (show (#[.int .i64 1, .int .i64 2, .int .i64 3] : Array Value)[kI]? = some (.int .i64 kd) by
    rw [hkd]
    match kI, hk3 with
    | 0, _ => rfl
    | 1, _ => rfl
    | 2, _ => rfl
    | n + 3, h => omega)
  obtain ⟨m5, hm5⟩ : ∃ m5 : Nat, (r1.tmod 5 + 5).tmod 5 = (m5 : Int) := ⟨((r1.tmod 5 + 5).tmod 5).toNat, by have := (next_r r1 5 (by omega)).1; omega⟩
  have HM5 := Lib.hid hm5
  obtain ⟨xv, hxv⟩ : ∃ xv, xv = cellS kd m5 := ⟨_, rfl⟩
  have HXV := Lib.hid hxv
  have hfl : flatV xv := by rw [hxv]; exact cellS_flat _ _
  have HFL := Lib.hid hfl
  obtain ⟨W0, hW0⟩ : ∃ W0, W0 = (w.alloc (.cells #[.int .i64 q0, .int .i64 q1, .int .i64 q2] 23)).alloc (.cells #[.int .i64 r0, .int .i64 r1, .int .i64 r2] 23) := ⟨_, rfl⟩
  have HW0 := Lib.hid hW0
  have HX0 := Lib.hid (show Ext w W0 by rw [hW0]; exact ((Ext.refl w).alloc _).alloc _)
  have HGQ0 := Lib.hid (show Blk W0 w.heap.size 23 #[.int .i64 q0, .int .i64 q1, .int .i64 q2] by rw [hW0]; exact (Blk.new _ _ _).keep (Kept.alloc _ _ _))
  have HGR0 := Lib.hid (show Blk W0 (w.heap.size + 1) 23 #[.int .i64 r0, .int .i64 r1, .int .i64 r2] by
    rw [hW0]
    have := Blk.new (w.alloc (.cells #[.int .i64 q0, .int .i64 q1, .int .i64 q2] 23)) 23 #[.int .i64 r0, .int .i64 r1, .int .i64 r2]
    simpa using this)
  clear ht hl hW0 hxv hm5 hkI kb1 kb2 hkd hfl hr1
  go_enter Tryz.func3, Tryz.ntmps3
  go_wp2_with fail
  rw [← HW0.out]
  refine (law_sanity W0 (HT.out.ext HX0.out)).mono ?_
  rintro e1 w1 ⟨rfl, hx1⟩
  have HX1 := Lib.hid (HX0.out.trans hx1)
  have HGQ1 := Lib.hid (HGQ0.out.keep (hx1.kept _))
  have HGR1 := Lib.hid (HGR0.out.keep (hx1.kept _))
  clear hx1 HGQ0 HGR0 HX0 HW0
  go_wp2_with fail
  refine (r09_Made ⟨#[116]⟩ l A c _ S (HL.out.keep (HX1.out.kept _)) (by decide)).mono ?_
  rintro e2 w2 ⟨t, hmt, At, ct, Bt, et, rfl, ⟨hct, het⟩, hrl, hx2⟩
  have HMT := Lib.hid hmt
  have HCT := Lib.hid hct
  have HET := Lib.hid het
  have HX2 := Lib.hid (HX1.out.trans hx2)
  have HRL0 := Lib.hid (hrl.up (d' := 2) (by omega))
  have HGQ2 := Lib.hid (HGQ1.out.keep (hx2.kept _))
  have HGR2 := Lib.hid (HGR1.out.keep (hx2.kept _))
  clear hmt hct het hrl hx2 HGQ1 HGR1 HX1
  go_upto_region 3 with fail
  obtain ⟨w3, hw3⟩ : ∃ w3, w3 = w2.alloc (.cells #[.string t.name, .slice At t.cols.length ct, .slice Bt t.rows.length et] 28) := ⟨_, rfl⟩
  have hx23 : Ext w2 w3 := by rw [hw3]; exact (Ext.refl _).alloc _
  have HX3 := Lib.hid (HX2.out.trans hx23)
  have HGT3 := Lib.hid (show Blk w3 w2.heap.size 28 #[.string t.name, .slice At t.cols.length ct, .slice Bt t.rows.length et] by rw [hw3]; exact Blk.new _ _ _)
  have HRL3 := Lib.hid (HRL0.out.keep (hx23.kept _))
  have HGQ3 := Lib.hid (HGQ2.out.keep (hx23.kept _))
  have HGR := Lib.hid (HGR2.out.keep (hx23.kept _))
  rw [← hw3]
  clear hw3 hx23 HX2 HGQ2 HGR2 HRL0
  obtain ⟨gt, hgt⟩ : ∃ gt, gt = w2.heap.size := ⟨_, rfl⟩
  obtain ⟨gq, hgq⟩ : ∃ gq, gq = w.heap.size := ⟨_, rfl⟩
  obtain ⟨gr, hgr⟩ : ∃ gr, gr = w.heap.size + 1 := ⟨_, rfl⟩
  rw [← hgt] at HGT3
  rw [← hgq] at HGQ3
  rw [← hgr] at HGR
  rw [← hgt, ← hgr, ← hgq]
  clear hgt hgq hgr
  refine wp_region_lin_lit (by kernel_rfl) (fun | 13 => [12, 13] | i => [i]) (by kernel_rfl) LR LR.refl LR.trans (LN (al1 13 12)) (gF3 gr r1 kI kd xv) (gF3_st _ _ _ _ _) gh0 (LN.zero _) ⟨?_, ?_, ?_, ?_, ?_, ?_, ?_, ?_, ?_, ?_, ?_, ?_, ?_, ?_, trivial⟩ ?_
  · refine LinStep.yes fun vals γ w' ρ hR hN hp hρ hc hf hg => ⟨rfl, ?_⟩
    have hx := hR.drew_ext
    have HR := Lib.hid hR
    have HN := Lib.hid hN
    clear hR hN hp hρ hx
    go_light
    go_simp
    exact ⟨γ, LR.of_ext γ ((Ext.refl _).alloc _), fun _ _ _ h => h, _, rfl, Blk.new _ _ _, fun ⟨k', hk'⟩ => by have := HR.out.inb0 k' _ hk'; omega⟩
  · refine LinStep.yes fun vals γ w' ρ hR hN hp hρ hc hf hg => ⟨rfl, ?_⟩
    have e5 : ρ (.tmp 5) = .pointer (some ⟨gr, 0, none⟩) := hρ 5
    have hx := hR.drew_ext
    have HR := Lib.hid hR
    have HN := Lib.hid hN
    clear hR hN hp hρ hx
    go_light
    go_simp
    exact ⟨γ, LR.refl _ _, fun _ _ _ h => h, rfl⟩
  · refine LinStep.yes fun vals γ w' ρ hR hN hp hρ hc hf hg => ⟨rfl, ?_⟩
    have e20 : ρ (.tmp 20) = .pointer (some ⟨gr, 1, none⟩) := (hρ 20).trans (hp 1 (by decide))
    have hx := hR.drew_ext
    have c1 := (HGR.out.keep (hx.kept _)).cell (i := 1) rfl
    have HR := Lib.hid hR
    have HN := Lib.hid hN
    clear hR hN hp hρ hx
    go_light
    go_simp
    exact ⟨γ, LR.refl _ _, fun _ _ _ h => h, rfl⟩
  · refine LinStep.yes fun vals γ w' ρ hR hN hp hρ hc hf hg => ⟨rfl, ?_⟩
    have e21 : ρ (.tmp 21) = .int .i64 r1 := (hρ 21).trans (hp 2 (by decide))
    have hx := hR.drew_ext
    have i1 := HQW.out
    have HR := Lib.hid hR
    have HN := Lib.hid hN
    clear hR hN hp hρ hx
    go_light
    go_simp
    exact ⟨γ, LR.refl _ _, fun _ _ _ h => h, rfl⟩
  · refine LinStep.yes fun vals γ w' ρ hR hN hp hρ hc hf hg => ⟨rfl, ?_⟩
    have e22 : ρ (.tmp 22) = .int .i64 (r1.tdiv 5) := (hρ 22).trans (hp 3 (by decide))
    have hx := hR.drew_ext
    have HR := Lib.hid hR
    have HN := Lib.hid hN
    clear hR hN hp hρ hx
    go_light
    go_simp
    exact ⟨γ, LR.refl _ _, fun _ _ _ h => h, rfl⟩
  · refine LinStep.yes fun vals γ w' ρ hR hN hp hρ hc hf hg => ⟨rfl, ?_⟩
    have e23 : ρ (.tmp 23) = .int .i64 ((r1.tdiv 5).tmod 3) := (hρ 23).trans (hp 4 (by decide))
    have hx := hR.drew_ext
    have i1 := HKW.out
    have HR := Lib.hid hR
    have HN := Lib.hid hN
    clear hR hN hp hρ hx
    go_light
    go_simp
    exact ⟨γ, LR.refl _ _, fun _ _ _ h => h, rfl⟩
  · refine LinStep.yes fun vals γ w' ρ hR hN hp hρ hc hf hg => ⟨rfl, ?_⟩
    have e24 : ρ (.tmp 24) = .int .i64 ((r1.tdiv 5).tmod 3 + 3) := (hρ 24).trans (hp 5 (by decide))
    have hx := hR.drew_ext
    have i1 := HKE.out
    have HR := Lib.hid hR
    have HN := Lib.hid hN
    clear hR hN hp hρ hx
    go_light
    go_simp
    exact ⟨γ, LR.refl _ _, fun _ _ _ h => h, rfl⟩
  · refine LinStep.yes fun vals γ w' ρ hR hN hp hρ hc hf hg => ⟨rfl, ?_⟩
    obtain ⟨gb, hgb, hbk, hfb⟩ := hp 0 (by decide)
    have e19 : ρ (.tmp 19) = _ := (hρ 19).trans hgb
    have HBK := Lib.hid hbk
    have HFB := Lib.hid hfb
    clear hgb hbk hfb
    have e25 : ρ (.tmp 25) = .int .i64 (kI : Int) := (hρ 25).trans (hp 6 (by decide))
    have hx := hR.drew_ext
    have i0 : (0 : Int) ≤ (kI : Int) := by omega
    have i1 : (kI : Int) < 3 := by omega
    have HR := Lib.hid hR
    have HN := Lib.hid hN
    clear hR hN hp hρ hx
    go_light
    go_simp
    exact ⟨γ, LR.refl _ _, fun _ _ _ h => h, gb, rfl, HBK.out, HFB.out⟩
  · refine LinStep.yes fun vals γ w' ρ hR hN hp hρ hc hf hg => ⟨rfl, ?_⟩
    obtain ⟨gb, hgb, hbk, hfb⟩ := hp 7 (by decide)
    have e26 : ρ (.tmp 26) = _ := (hρ 26).trans hgb
    have HBK := Lib.hid hbk
    have HFB := Lib.hid hfb
    clear hgb hbk hfb
    have hx := hR.drew_ext
    have k1 := HBK.out.cell HKD.out
    have HR := Lib.hid hR
    have HN := Lib.hid hN
    clear hR hN hp hρ hx
    go_light
    go_simp
    exact ⟨γ, LR.refl _ _, fun _ _ _ h => h, rfl⟩
  · refine LinStep.yes fun vals γ w' ρ hR hN hp hρ hc hf hg => ⟨rfl, ?_⟩
    have e5 : ρ (.tmp 5) = .pointer (some ⟨gr, 0, none⟩) := hρ 5
    have hx := hR.drew_ext
    have HR := Lib.hid hR
    have HN := Lib.hid hN
    clear hR hN hp hρ hx
    go_light
    go_simp
    exact ⟨γ, LR.refl _ _, fun _ _ _ h => h, rfl⟩
  · refine LinStep.yes fun vals γ w' ρ hR hN hp hρ hc hf hg => ⟨rfl, ?_⟩
    have e28 : ρ (.tmp 28) = .pointer (some ⟨gr, 1, none⟩) := (hρ 28).trans (hp 9 (by decide))
    have hx := hR.drew_ext
    have c1 := (HGR.out.keep (hx.kept _)).cell (i := 1) rfl
    have HR := Lib.hid hR
    have HN := Lib.hid hN
    clear hR hN hp hρ hx
    go_light
    go_simp
    exact ⟨γ, LR.refl _ _, fun _ _ _ h => h, rfl⟩
  · refine LinStep.yes fun vals γ w' ρ hR hN hp hρ hc hf hg => ⟨rfl, ?_⟩
    have e27 : ρ (.tmp 27) = .int .i64 kd := (hρ 27).trans (hp 8 (by decide))
    have e29 : ρ (.tmp 29) = .int .i64 r1 := (hρ 29).trans (hp 10 (by decide))
    have hx := hR.drew_ext
    have HR := Lib.hid hR
    have HN := Lib.hid hN
    clear hR hN hp hρ hx
    go_light
    go_simp
    refine (r09_Cell kd r1 w' m5 HM5.out).mono ?_
    rintro e' w3 ⟨he, hx⟩
    rw [← HXV.out] at he
    exact ⟨_, he, γ, LR.of_ext γ hx, fun _ _ _ h => h, rfl⟩
  · refine LinStep.yes fun vals γ w' ρ hR hN hp hρ hc hf hg => ⟨rfl, ?_⟩
    have hx := hR.drew_ext
    have HR := Lib.hid hR
    have HN := Lib.hid hN
    clear hR hN hp hρ hx
    go_light
    go_simp
    exact ⟨γ.put 12 (some w'.heap.size), LR.new (HN.out.2 ⟨13, rfl⟩) _ _, LN.made, VarAt.new HR.out.inb0 rfl⟩
  · refine LinStep.yes fun vals γ w' ρ hR hN hp hρ hc hf hg => ⟨rfl, ?_⟩
    have e30 : ρ (.tmp 30) = (.agg #[.int .i64 xv.kind, .string xv.s, .int .i64 xv.dn, .int .i64 xv.ds, .int .i64 xv.n, .slice none xv.cols.length 0, .slice none xv.rows.length 0]) := (hρ 30).trans (hp 11 (by decide))
    obtain ⟨g, hv, hcs, hk, hst⟩ := VarAt.store7 (hp 12 (by decide)) (s := 13) (al := al1 13 12) rfl hN
    have e9 : ρ (.tmp 9) = _ := (hρ 9).trans hv
    obtain ⟨⟨x0, x1, x2, x3, x4, x5, x6, k0, k1, k2, k3, k4, k5, k6⟩, kf, kz⟩ := blk7 hcs
    have HST := Lib.hid hst
    have HK := Lib.hid hk
    clear hv hst hcs hk
    have hx := hR.drew_ext
    have HR := Lib.hid hR
    have HN := Lib.hid hN
    clear hR hN hp hρ hx
    go_light
    go_simp
    exact ⟨γ.put 12 none, (HST.out _ _ _ _ _ _ _).1, LN.stored al1_inj rfl HK.out, (HST.out _ _ _ _ _ _ _).2⟩
  · intro vals γ w4 hR hG
    obtain ⟨gv, hv, hb, -⟩ := hG 13 (by decide)
    have hx4 := hR.drew_ext
    have HX4 := Lib.hid (HX3.out.trans hx4)
    have HGV4 := Lib.hid hb
    have HGT := Lib.hid (HGT3.out.keep (hx4.kept _))
    have HGQ := Lib.hid (HGQ3.out.keep (hx4.kept _))
    have HGR4 := Lib.hid (HGR.out.keep (hx4.kept _))
    have HRL := Lib.hid (HRL3.out.keep (hx4.kept _))
    have HOK := Lib.hid (made_ok HMT.out)
    clear hR hG hb hx4 HGT3 HGQ3 HGR HRL3 HX3
    simp only [lexFrame, Act.put, List.setIfInBounds_toArray, List.set_cons_succ, List.set_cons_zero, Nat.zero_add, Nat.reduceAdd, hv]
    generalize vals 0 = u0, vals 1 = u1, vals 2 = u2, vals 3 = u3, vals 4 = u4, vals 5 = u5, vals 6 = u6, vals 7 = u7, vals 8 = u8, vals 9 = u9, vals 10 = u10, vals 11 = u11, vals 13 = u13
    clear hv
    go_upto_region 4 with fail
    refine wp_region_lin_lit (by kernel_rfl) (fun i => [i]) (by kernel_rfl) LR LR.refl LR.trans (LN (al0)) (gF4 gt gq t At ct Bt et q0 q1 q2) (gF4_st _ _ _ _ _ _ _ _ _ _) gh0 (LN.zero _) ⟨?_, ?_, ?_, ?_, ?_, ?_, ?_, trivial⟩ ?_
    · refine LinStep.yes fun vals γ w' ρ hR hN hp hρ hc hf hg => ⟨rfl, ?_⟩
      have e8 : ρ (.tmp 8) = .pointer (some ⟨gt, 0, none⟩) := hρ 8
      have hx := hR.drew_ext
      have c0 := (HGT.out.keep (hx.kept _)).cell (i := 0) rfl
      have c1 := (HGT.out.keep (hx.kept _)).cell (i := 1) rfl
      have c2 := (HGT.out.keep (hx.kept _)).cell (i := 2) rfl
      have HR := Lib.hid hR
      have HN := Lib.hid hN
      clear hR hN hp hρ hx
      go_light
      go_simp
      exact ⟨γ, LR.refl _ _, fun _ _ _ h => h, rfl⟩
    · refine LinStep.yes fun vals γ w' ρ hR hN hp hρ hc hf hg => ⟨rfl, ?_⟩
      have e8 : ρ (.tmp 8) = .pointer (some ⟨gt, 0, none⟩) := hρ 8
      have hx := hR.drew_ext
      have c0 := (HGT.out.keep (hx.kept _)).cell (i := 0) rfl
      have c1 := (HGT.out.keep (hx.kept _)).cell (i := 1) rfl
      have c2 := (HGT.out.keep (hx.kept _)).cell (i := 2) rfl
      have HR := Lib.hid hR
      have HN := Lib.hid hN
      clear hR hN hp hρ hx
      go_light
      go_simp
      exact ⟨γ, LR.refl _ _, fun _ _ _ h => h, rfl⟩
    · refine LinStep.yes fun vals γ w' ρ hR hN hp hρ hc hf hg => ⟨rfl, ?_⟩
      have e4 : ρ (.tmp 4) = .pointer (some ⟨gq, 0, none⟩) := hρ 4
      have hx := hR.drew_ext
      have c0 := (HGQ.out.keep (hx.kept _)).cell (i := 0) rfl
      have c1 := (HGQ.out.keep (hx.kept _)).cell (i := 1) rfl
      have c2 := (HGQ.out.keep (hx.kept _)).cell (i := 2) rfl
      have HR := Lib.hid hR
      have HN := Lib.hid hN
      clear hR hN hp hρ hx
      go_light
      go_simp
      exact ⟨γ, LR.refl _ _, fun _ _ _ h => h, rfl⟩
    · refine LinStep.yes fun vals γ w' ρ hR hN hp hρ hc hf hg => ⟨rfl, ?_⟩
      have e32 : ρ (.tmp 32) = (.agg #[.string t.name, .slice At t.cols.length ct, .slice Bt t.rows.length et]) := (hρ 32).trans (hp 1 (by decide))
      have e33 : ρ (.tmp 33) = .agg #[.int .i64 q0, .int .i64 q1, .int .i64 q2] := (hρ 33).trans (hp 2 (by decide))
      have hx := hR.drew_ext
      have HR := Lib.hid hR
      have HN := Lib.hid hN
      clear hR hN hp hρ hx
      go_light
      go_simp
      refine (r09_Odd t At Bt ct et q0 q1 q2 w' _ (HRL.out.keep (HR.out.drew_ext.kept _)) HOK.out).mono ?_
      rintro e' w3 ⟨t', A', c', B', e1, he, hcp, hrl, hx⟩
      exact ⟨_, he, γ, LR.of_ext γ hx, fun _ _ _ h => h, t', A', c', B', e1, rfl, hcp, hrl.mono fun b _ hb => fun ⟨k', hk'⟩ => by have := HR.out.inb0 k' _ hk'; unfold Fresh at hb; omega⟩
    · refine LinStep.yes fun vals γ w' ρ hR hN hp hρ hc hf hg => ⟨rfl, ?_⟩
      have e31 : ρ (.tmp 31) = (.agg #[.string t.name, .slice At t.cols.length ct, .slice Bt t.rows.length et]) := (hρ 31).trans (hp 0 (by decide))
      obtain ⟨t', A', c', B', e', g3, hcp, hrl⟩ := hp 3 (by decide)
      have e34 : ρ (.tmp 34) = _ := (hρ 34).trans g3
      have HRL' := Lib.hid hrl
      clear g3 hrl
      have hx := hR.drew_ext
      have HR := Lib.hid hR
      have HN := Lib.hid hN
      clear hR hN hp hρ hx
      go_light
      go_simp
      have hlr := LR.of_ext γ ((Ext.refl w').alloc (.cells #[.string t.name, .slice At t.cols.length ct, .slice Bt t.rows.length et, .string t'.name, .slice A' t'.cols.length c', .slice B' t'.rows.length e'] 28))
      exact ⟨γ, hlr, fun _ _ _ h => h, _, t', A', c', B', e', rfl, ⟨Blk.new _ _ _, fun ⟨k', hk'⟩ => by have := HR.out.inb0 k' _ hk'; omega⟩, hcp, HRL'.out.1, hlr.strs HRL'.out.2.1, hlr.rows HRL'.out.2.2⟩
    · refine LinStep.yes fun vals γ w' ρ hR hN hp hρ hc hf hg => ⟨rfl, ?_⟩
      obtain ⟨g, t', A', c', B', e', g4, -⟩ := hp 4 (by decide)
      have e35 : ρ (.tmp 35) = _ := (hρ 35).trans g4
      clear g4
      have hx := hR.drew_ext
      have HR := Lib.hid hR
      have HN := Lib.hid hN
      clear hR hN hp hρ hx
      go_light
      go_simp
      exact ⟨γ, LR.refl _ _, fun _ _ _ h => h, rfl⟩
    · refine LinStep.yes fun vals γ w' ρ hR hN hp hρ hc hf hg => ⟨rfl, ?_⟩
      have hx := hR.drew_ext
      have HR := Lib.hid hR
      have HN := Lib.hid hN
      clear hR hN hp hρ hx
      go_light
      go_simp
      exact ⟨γ, LR.refl _ _, fun _ _ _ h => h, rfl⟩
    · intro vals γ w6 hR hG
      obtain ⟨g, t', A', c', B', e', hv4, ⟨hbk, -⟩, hcp, hrl'⟩ := hG 4 (by decide)
      have h5 : vals 5 = .int .i64 2 := hG 5 (by decide)
      have h6 : vals 6 = .int .i64 0 := hG 6 (by decide)
      have hx6 := hR.drew_ext
      have HX6 := Lib.hid (HX4.out.trans hx6)
      have HGV6 := Lib.hid (HGV4.out.keep (hx6.kept _))
      have HGR6 := Lib.hid (HGR4.out.keep (hx6.kept _))
      have HGT6 := Lib.hid (HGT.out.keep (hx6.kept _))
      have HRL6 := Lib.hid (HRL.out.keep (hx6.kept _))
      have HXX := Lib.hid (show ∀ k, k < 2 → ∃ (x : Look) (A : Option Addr) (c : Nat) (B : Option Addr) (e : Nat), w6.cell? ⟨g, k * 3, none⟩ = some (.string x.name) ∧ w6.cell? ⟨g, k * 3 + 1, none⟩ = some (.slice A x.cols.length c) ∧ w6.cell? ⟨g, k * 3 + 2, none⟩ = some (.slice B x.rows.length e) ∧ x.cols.length ≤ c ∧ RL w6 (fun _ => True) 2 x A B by
        intro k hk
        match k, hk with
        | 0, _ => exact ⟨t, At, ct, Bt, et, hbk.cell rfl, hbk.cell rfl, hbk.cell rfl, HCT.out, HRL6.out.mono fun _ _ _ => trivial⟩
        | 1, _ => exact ⟨t', A', c', B', e', hbk.cell rfl, hbk.cell rfl, hbk.cell rfl, hcp.1, hrl'.mono fun _ _ _ => trivial⟩
        | n + 2, h => omega)
      have HGZ := Lib.hid hbk.lt
      clear hR hG hbk hrl' hx6 hcp HGV4 HGR4 HGT HRL HX4 HGQ HOK
      simp only [lexFrame, Act.put, List.setIfInBounds_toArray, List.set_cons_succ, List.set_cons_zero, Nat.zero_add, Nat.reduceAdd, hv4, h5, h6]
      generalize vals 0 = u20, vals 1 = u21, vals 2 = u22, vals 3 = u23
      clear hv4 h5 h6
      go_wp2
      go_loopw [37] (fun i wr => ∃ (k : Nat), k ≤ 2 ∧ i = .int .i64 k ∧ Ext w6 wr) (fun i _ => 2 - (intOf i).toNat)
      case atStart => exact ⟨0, Nat.zero_le _, rfl, Ext.refl _⟩
      case round =>
        obtain ⟨k, hk, rfl, hext⟩ := hrel
        have HE := Lib.hid hext
        clear hext
        by_cases hlt : k < 2
        · obtain ⟨x, A, c, B, e, y0, y1, y2, hcx, hrx⟩ := HXX.out k hlt
          have z0 := HE.out.cell y0
          have z1 := HE.out.cell y1
          have z2 := HE.out.cell y2
          have zz : g < wr.heap.size := Nat.lt_of_lt_of_le HGZ.out HE.out.size
          have i0 : (0 : Int) ≤ (k : Int) := by omega
          have i1 : (k : Int) < 2 := by omega
          have HCX := Lib.hid hcx
          clear y0 y1 y2 hcx
          go_upto_region 7 with fail
          obtain ⟨wx, hwx⟩ : ∃ wx, wx = wr.alloc (.cells #[.string x.name, .slice A x.cols.length c, .slice B x.rows.length e] 28) := ⟨_, rfl⟩
          obtain ⟨gx, hgx⟩ : ∃ gx, gx = wr.heap.size := ⟨_, rfl⟩
          have hxa : Ext w6 wx := by rw [hwx]; exact HE.out.alloc _
          have HXA := Lib.hid hxa
          have HGX := Lib.hid (show Blk wx gx 28 #[.string x.name, .slice A x.cols.length c, .slice B x.rows.length e] by rw [hwx, hgx]; exact Blk.new _ _ _)
          have HRX := Lib.hid ((hrx.keep (hxa.kept _)).mono (T := fun b => b < wx.heap.size) fun i hi _ => hi)
          have HGV := Lib.hid (HGV6.out.keep (hxa.kept _))
          have HGR := Lib.hid (HGR6.out.keep (hxa.kept _))
          rw [← hwx, ← hgx]
          obtain ⟨rs, cd, hfs⟩ : ∃ rs cd, findS x (nameS r0) xv (nameS r2) = (rs, cd) := ⟨_, _, rfl⟩
          have HFS := Lib.hid hfs
          have HRV := Lib.hid (show ∀ w' : World, RV w' (fun _ => True) 2 xv none none from fun _ => RV.flat HFL.out)
          clear hwx hgx hxa hrx hfs z0 z1 z2 zz HE
          refine wp_region_lin_lit (by kernel_rfl) (fun | 13 => [12, 13] | i => [i]) (by kernel_rfl) LR LR.refl LR.trans (LN (al1 13 12)) (gF7 gr gv gx r0 r2 xv x A c B e rs cd) (gF7_st _ _ _ _ _ _ _ _ _ _ _ _ _) gh0 (LN.zero _) ⟨?_, ?_, ?_, ?_, ?_, ?_, ?_, ?_, ?_, ?_, ?_, ?_, ?_, ?_, ?_, trivial⟩ ?_
          · refine LinStep.yes fun vals γ w' ρ hR hN hp hρ hc hf hg => ⟨rfl, ?_⟩
            have e11 : ρ (.tmp 11) = .pointer (some ⟨gx, 0, none⟩) := hρ 11
            have hx := hR.drew_ext
            have c0 := (HGX.out.keep (hx.kept _)).cell (i := 0) rfl
            have c1 := (HGX.out.keep (hx.kept _)).cell (i := 1) rfl
            have c2 := (HGX.out.keep (hx.kept _)).cell (i := 2) rfl
            have HR := Lib.hid hR
            have HN := Lib.hid hN
            clear hR hN hp hρ hx
            go_light
            go_simp
            exact ⟨γ, LR.refl _ _, fun _ _ _ h => h, rfl⟩
          · refine LinStep.yes fun vals γ w' ρ hR hN hp hρ hc hf hg => ⟨rfl, ?_⟩
            have e5 : ρ (.tmp 5) = .pointer (some ⟨gr, 0, none⟩) := hρ 5
            have hx := hR.drew_ext
            have HR := Lib.hid hR
            have HN := Lib.hid hN
            clear hR hN hp hρ hx
            go_light
            go_simp
            exact ⟨γ, LR.refl _ _, fun _ _ _ h => h, rfl⟩
          · refine LinStep.yes fun vals γ w' ρ hR hN hp hρ hc hf hg => ⟨rfl, ?_⟩
            have e43 : ρ (.tmp 43) = .pointer (some ⟨gr, 0, none⟩) := (hρ 43).trans (hp 1 (by decide))
            have hx := hR.drew_ext
            have c0 := (HGR.out.keep (hx.kept _)).cell (i := 0) rfl
            have HR := Lib.hid hR
            have HN := Lib.hid hN
            clear hR hN hp hρ hx
            go_light
            go_simp
            exact ⟨γ, LR.refl _ _, fun _ _ _ h => h, rfl⟩
          · refine LinStep.yes fun vals γ w' ρ hR hN hp hρ hc hf hg => ⟨rfl, ?_⟩
            have e44 : ρ (.tmp 44) = .int .i64 r0 := (hρ 44).trans (hp 2 (by decide))
            have hx := hR.drew_ext
            have HR := Lib.hid hR
            have HN := Lib.hid hN
            clear hR hN hp hρ hx
            go_light
            go_simp
            refine (law_names r0 w').mono ?_
            rintro e' w3 ⟨he, hx⟩
            exact ⟨_, he, γ, LR.of_ext γ hx, fun _ _ _ h => h, rfl⟩
          · refine LinStep.yes fun vals γ w' ρ hR hN hp hρ hc hf hg => ⟨rfl, ?_⟩
            have e9 : ρ (.tmp 9) = .pointer (some ⟨gv, 0, none⟩) := hρ 9
            have hx := hR.drew_ext
            have c0 := (HGV.out.keep (hx.kept _)).cell (i := 0) rfl
            have c1 := (HGV.out.keep (hx.kept _)).cell (i := 1) rfl
            have c2 := (HGV.out.keep (hx.kept _)).cell (i := 2) rfl
            have c3 := (HGV.out.keep (hx.kept _)).cell (i := 3) rfl
            have c4 := (HGV.out.keep (hx.kept _)).cell (i := 4) rfl
            have c5 := (HGV.out.keep (hx.kept _)).cell (i := 5) rfl
            have c6 := (HGV.out.keep (hx.kept _)).cell (i := 6) rfl
            have HR := Lib.hid hR
            have HN := Lib.hid hN
            clear hR hN hp hρ hx
            go_light
            go_simp
            exact ⟨γ, LR.refl _ _, fun _ _ _ h => h, rfl⟩
          · refine LinStep.yes fun vals γ w' ρ hR hN hp hρ hc hf hg => ⟨rfl, ?_⟩
            have e5 : ρ (.tmp 5) = .pointer (some ⟨gr, 0, none⟩) := hρ 5
            have hx := hR.drew_ext
            have HR := Lib.hid hR
            have HN := Lib.hid hN
            clear hR hN hp hρ hx
            go_light
            go_simp
            exact ⟨γ, LR.refl _ _, fun _ _ _ h => h, rfl⟩
          · refine LinStep.yes fun vals γ w' ρ hR hN hp hρ hc hf hg => ⟨rfl, ?_⟩
            have e47 : ρ (.tmp 47) = .pointer (some ⟨gr, 2, none⟩) := (hρ 47).trans (hp 5 (by decide))
            have hx := hR.drew_ext
            have c2 := (HGR.out.keep (hx.kept _)).cell (i := 2) rfl
            have HR := Lib.hid hR
            have HN := Lib.hid hN
            clear hR hN hp hρ hx
            go_light
            go_simp
            exact ⟨γ, LR.refl _ _, fun _ _ _ h => h, rfl⟩
          · refine LinStep.yes fun vals γ w' ρ hR hN hp hρ hc hf hg => ⟨rfl, ?_⟩
            have e48 : ρ (.tmp 48) = .int .i64 r2 := (hρ 48).trans (hp 6 (by decide))
            have hx := hR.drew_ext
            have HR := Lib.hid hR
            have HN := Lib.hid hN
            clear hR hN hp hρ hx
            go_light
            go_simp
            refine (law_names r2 w').mono ?_
            rintro e' w3 ⟨he, hx⟩
            exact ⟨_, he, γ, LR.of_ext γ hx, fun _ _ _ h => h, rfl⟩
          · refine LinStep.yes fun vals γ w' ρ hR hN hp hρ hc hf hg => ⟨rfl, ?_⟩
            have e42 : ρ (.tmp 42) = (.agg #[.string x.name, .slice A x.cols.length c, .slice B x.rows.length e]) := (hρ 42).trans (hp 0 (by decide))
            have e45 : ρ (.tmp 45) = .string (nameS r0) := (hρ 45).trans (hp 3 (by decide))
            have e46 : ρ (.tmp 46) = (.agg #[.int .i64 xv.kind, .string xv.s, .int .i64 xv.dn, .int .i64 xv.ds, .int .i64 xv.n, .slice none xv.cols.length 0, .slice none xv.rows.length 0]) := (hρ 46).trans (hp 4 (by decide))
            have e49 : ρ (.tmp 49) = .string (nameS r2) := (hρ 49).trans (hp 7 (by decide))
            have hx := hR.drew_ext
            have HR := Lib.hid hR
            have HN := Lib.hid hN
            clear hR hN hp hρ hx
            go_light
            go_simp
            have hff := table_Find 2 x (nameS r0) xv (nameS r2) A B none none c e 0 0 w' (fun b => b < wx.heap.size) (fun _ => True) (HRX.out.keep (HR.out.drew_ext.kept _)) HCX.out (HRV.out _)
            rw [HFS.out] at hff
            refine hff.mono ?_
            rintro e' w3 ⟨A1, c1, B1, e1, he, -, hrv, hx⟩
            exact ⟨_, he, γ, LR.of_ext γ hx, fun _ _ _ h => h, A1, c1, B1, e1, rfl, hrv.mono fun b _ hb => fun ⟨k', hk'⟩ => by have := HR.out.inb0 k' _ hk'; unfold Fresh at hb; omega⟩
          · refine LinStep.yes fun vals γ w' ρ hR hN hp hρ hc hf hg => ⟨rfl, ?_⟩
            obtain ⟨A', c', B', e', hv0, hrv0⟩ := hp 8 (by decide)
            have e50 : ρ (.tmp 50) = _ := (hρ 50).trans hv0
            have HRV0 := Lib.hid hrv0
            clear hv0 hrv0
            have hx := hR.drew_ext
            have HR := Lib.hid hR
            have HN := Lib.hid hN
            clear hR hN hp hρ hx
            go_light
            go_simp
            exact ⟨γ, LR.refl _ _, fun _ _ _ h => h, A', c', B', e', rfl, HRV0.out⟩
          · refine LinStep.yes fun vals γ w' ρ hR hN hp hρ hc hf hg => ⟨rfl, ?_⟩
            obtain ⟨A', c', B', e', hv0, hrv0⟩ := hp 9 (by decide)
            have e41 : ρ (.tmp 41) = _ := (hρ 41).trans hv0
            have HRV0 := Lib.hid hrv0
            clear hv0 hrv0
            have hx := hR.drew_ext
            have HR := Lib.hid hR
            have HN := Lib.hid hN
            clear hR hN hp hρ hx
            go_light
            go_simp
            exact ⟨γ, LR.refl _ _, fun _ _ _ h => h, A', c', B', e', rfl, HRV0.out⟩
          · refine LinStep.yes fun vals γ w' ρ hR hN hp hρ hc hf hg => ⟨rfl, ?_⟩
            obtain ⟨A', c', B', e', hv0, hrv0⟩ := hp 9 (by decide)
            have e41 : ρ (.tmp 41) = _ := (hρ 41).trans hv0
            have HRV0 := Lib.hid hrv0
            clear hv0 hrv0
            have hx := hR.drew_ext
            have HR := Lib.hid hR
            have HN := Lib.hid hN
            clear hR hN hp hρ hx
            go_light
            go_simp
            exact ⟨γ, LR.refl _ _, fun _ _ _ h => h, rfl⟩
          · refine LinStep.yes fun vals γ w' ρ hR hN hp hρ hc hf hg => ⟨rfl, ?_⟩
            have hx := hR.drew_ext
            have HR := Lib.hid hR
            have HN := Lib.hid hN
            clear hR hN hp hρ hx
            go_light
            go_simp
            exact ⟨γ.put 12 (some w'.heap.size), LR.new (HN.out.2 ⟨13, rfl⟩) _ _, LN.made, VarAt.new HR.out.inb0 rfl⟩
          · refine LinStep.yes fun vals γ w' ρ hR hN hp hρ hc hf hg => ⟨rfl, ?_⟩
            obtain ⟨A', c', B', e', hv0, hrv0⟩ := hp 10 (by decide)
            have e51 : ρ (.tmp 51) = _ := (hρ 51).trans hv0
            have HRV0 := Lib.hid hrv0
            clear hv0 hrv0
            obtain ⟨g, hv, hcs, hk, hst⟩ := VarAt.store7 (hp 12 (by decide)) (s := 13) (al := al1 13 12) rfl hN
            have e12 : ρ (.tmp 12) = _ := (hρ 12).trans hv
            obtain ⟨⟨x0, x1, x2, x3, x4, x5, x6, k0, k1, k2, k3, k4, k5, k6⟩, kf, kz⟩ := blk7 hcs
            have HST := Lib.hid hst
            have HK := Lib.hid hk
            clear hv hst hcs hk
            have hx := hR.drew_ext
            have HR := Lib.hid hR
            have HN := Lib.hid hN
            clear hR hN hp hρ hx
            go_light
            go_simp
            exact ⟨γ.put 12 none, (HST.out _ _ _ _ _ _ _).1, LN.stored al1_inj rfl HK.out, A', c', B', e', (HST.out _ _ _ _ _ _ _).2, (HST.out _ _ _ _ _ _ _).1.rv HRV0.out⟩
          · refine LinStep.yes fun vals γ w' ρ hR hN hp hρ hc hf hg => ⟨rfl, ?_⟩
            have e52 : ρ (.tmp 52) = .int .i64 cd := (hρ 52).trans (hp 11 (by decide))
            have hx := hR.drew_ext
            have HR := Lib.hid hR
            have HN := Lib.hid hN
            clear hR hN hp hρ hx
            go_light
            go_simp
            exact ⟨γ, LR.refl _ _, fun _ _ _ h => h, rfl⟩
          · intro vals γ w7 hR hG
            obtain ⟨A1, c1, B1, e1, ⟨g1, hv1, hb1, -⟩, hrv1⟩ := hG 13 (by decide)
            have h14 : vals 14 = .int .i64 cd := hG 14 (by decide)
            have hx7 := hR.drew_ext
            have HXB := Lib.hid hx7
            have HG17 := Lib.hid hb1
            have HR17 := Lib.hid hrv1
            clear hR hG hb1 hrv1
            simp only [lexFrame, Act.put, List.setIfInBounds_toArray, List.set_cons_succ, List.set_cons_zero, Nat.zero_add, Nat.reduceAdd, hv1, h14]
            generalize vals 0 = v0, vals 1 = v1, vals 2 = v2, vals 3 = v3, vals 4 = v4, vals 5 = v5, vals 6 = v6, vals 7 = v7, vals 8 = v8, vals 9 = v9, vals 10 = v10, vals 11 = v11, vals 13 = v13
            clear hv1 h14
            obtain ⟨HGX0, HRX0, HGV0, HGR0⟩ : Hid _ ∧ Hid _ ∧ Hid _ ∧ Hid _ := ⟨HGX, HRX, HGV, HGR⟩
            have HGX := Lib.hid (HGX0.out.keep (hx7.kept _))
            have HGV := Lib.hid (HGV0.out.keep (hx7.kept _))
            have HGR := Lib.hid (HGR0.out.keep (hx7.kept _))
            have HRX := Lib.hid ((HRX0.out.keep (hx7.kept _)).mono (T := fun b => b < w7.heap.size) fun i hi _ => hi)
            clear hx7 HGX0 HRX0 HGV0 HGR0
            go_upto_region 8 with fail
            refine wp_region_lin_lit (by kernel_rfl) (fun | 13 => [12, 13] | i => [i]) (by kernel_rfl) LR LR.refl LR.trans (LN (al1 13 12)) (gF7 gr gv gx r0 r2 xv x A c B e rs cd) (gF7_st _ _ _ _ _ _ _ _ _ _ _ _ _) gh0 (LN.zero _) ⟨?_, ?_, ?_, ?_, ?_, ?_, ?_, ?_, ?_, ?_, ?_, ?_, ?_, ?_, ?_, trivial⟩ ?_
            · refine LinStep.yes fun vals γ w' ρ hR hN hp hρ hc hf hg => ⟨rfl, ?_⟩
              have e11 : ρ (.tmp 11) = .pointer (some ⟨gx, 0, none⟩) := hρ 11
              have hx := hR.drew_ext
              have c0 := (HGX.out.keep (hx.kept _)).cell (i := 0) rfl
              have c1 := (HGX.out.keep (hx.kept _)).cell (i := 1) rfl
              have c2 := (HGX.out.keep (hx.kept _)).cell (i := 2) rfl
              have HR := Lib.hid hR
              have HN := Lib.hid hN
              clear hR hN hp hρ hx
              go_light
              go_simp
              exact ⟨γ, LR.refl _ _, fun _ _ _ h => h, rfl⟩
            · refine LinStep.yes fun vals γ w' ρ hR hN hp hρ hc hf hg => ⟨rfl, ?_⟩
              have e5 : ρ (.tmp 5) = .pointer (some ⟨gr, 0, none⟩) := hρ 5
              have hx := hR.drew_ext
              have HR := Lib.hid hR
              have HN := Lib.hid hN
              clear hR hN hp hρ hx
              go_light
              go_simp
              exact ⟨γ, LR.refl _ _, fun _ _ _ h => h, rfl⟩
            · refine LinStep.yes fun vals γ w' ρ hR hN hp hρ hc hf hg => ⟨rfl, ?_⟩
              have e55 : ρ (.tmp 55) = .pointer (some ⟨gr, 0, none⟩) := (hρ 55).trans (hp 1 (by decide))
              have hx := hR.drew_ext
              have c0 := (HGR.out.keep (hx.kept _)).cell (i := 0) rfl
              have HR := Lib.hid hR
              have HN := Lib.hid hN
              clear hR hN hp hρ hx
              go_light
              go_simp
              exact ⟨γ, LR.refl _ _, fun _ _ _ h => h, rfl⟩
            · refine LinStep.yes fun vals γ w' ρ hR hN hp hρ hc hf hg => ⟨rfl, ?_⟩
              have e56 : ρ (.tmp 56) = .int .i64 r0 := (hρ 56).trans (hp 2 (by decide))
              have hx := hR.drew_ext
              have HR := Lib.hid hR
              have HN := Lib.hid hN
              clear hR hN hp hρ hx
              go_light
              go_simp
              refine (law_names r0 w').mono ?_
              rintro e' w3 ⟨he, hx⟩
              exact ⟨_, he, γ, LR.of_ext γ hx, fun _ _ _ h => h, rfl⟩
            · refine LinStep.yes fun vals γ w' ρ hR hN hp hρ hc hf hg => ⟨rfl, ?_⟩
              have e9 : ρ (.tmp 9) = .pointer (some ⟨gv, 0, none⟩) := hρ 9
              have hx := hR.drew_ext
              have c0 := (HGV.out.keep (hx.kept _)).cell (i := 0) rfl
              have c1 := (HGV.out.keep (hx.kept _)).cell (i := 1) rfl
              have c2 := (HGV.out.keep (hx.kept _)).cell (i := 2) rfl
              have c3 := (HGV.out.keep (hx.kept _)).cell (i := 3) rfl
              have c4 := (HGV.out.keep (hx.kept _)).cell (i := 4) rfl
              have c5 := (HGV.out.keep (hx.kept _)).cell (i := 5) rfl
              have c6 := (HGV.out.keep (hx.kept _)).cell (i := 6) rfl
              have HR := Lib.hid hR
              have HN := Lib.hid hN
              clear hR hN hp hρ hx
              go_light
              go_simp
              exact ⟨γ, LR.refl _ _, fun _ _ _ h => h, rfl⟩
            · refine LinStep.yes fun vals γ w' ρ hR hN hp hρ hc hf hg => ⟨rfl, ?_⟩
              have e5 : ρ (.tmp 5) = .pointer (some ⟨gr, 0, none⟩) := hρ 5
              have hx := hR.drew_ext
              have HR := Lib.hid hR
              have HN := Lib.hid hN
              clear hR hN hp hρ hx
              go_light
              go_simp
              exact ⟨γ, LR.refl _ _, fun _ _ _ h => h, rfl⟩
            · refine LinStep.yes fun vals γ w' ρ hR hN hp hρ hc hf hg => ⟨rfl, ?_⟩
              have e59 : ρ (.tmp 59) = .pointer (some ⟨gr, 2, none⟩) := (hρ 59).trans (hp 5 (by decide))
              have hx := hR.drew_ext
              have c2 := (HGR.out.keep (hx.kept _)).cell (i := 2) rfl
              have HR := Lib.hid hR
              have HN := Lib.hid hN
              clear hR hN hp hρ hx
              go_light
              go_simp
              exact ⟨γ, LR.refl _ _, fun _ _ _ h => h, rfl⟩
            · refine LinStep.yes fun vals γ w' ρ hR hN hp hρ hc hf hg => ⟨rfl, ?_⟩
              have e60 : ρ (.tmp 60) = .int .i64 r2 := (hρ 60).trans (hp 6 (by decide))
              have hx := hR.drew_ext
              have HR := Lib.hid hR
              have HN := Lib.hid hN
              clear hR hN hp hρ hx
              go_light
              go_simp
              refine (law_names r2 w').mono ?_
              rintro e' w3 ⟨he, hx⟩
              exact ⟨_, he, γ, LR.of_ext γ hx, fun _ _ _ h => h, rfl⟩
            · refine LinStep.yes fun vals γ w' ρ hR hN hp hρ hc hf hg => ⟨rfl, ?_⟩
              have e54 : ρ (.tmp 54) = (.agg #[.string x.name, .slice A x.cols.length c, .slice B x.rows.length e]) := (hρ 54).trans (hp 0 (by decide))
              have e57 : ρ (.tmp 57) = .string (nameS r0) := (hρ 57).trans (hp 3 (by decide))
              have e58 : ρ (.tmp 58) = (.agg #[.int .i64 xv.kind, .string xv.s, .int .i64 xv.dn, .int .i64 xv.ds, .int .i64 xv.n, .slice none xv.cols.length 0, .slice none xv.rows.length 0]) := (hρ 58).trans (hp 4 (by decide))
              have e61 : ρ (.tmp 61) = .string (nameS r2) := (hρ 61).trans (hp 7 (by decide))
              have hx := hR.drew_ext
              have HR := Lib.hid hR
              have HN := Lib.hid hN
              clear hR hN hp hρ hx
              go_light
              go_simp
              have hff := r09_Find 2 x (nameS r0) xv (nameS r2) A B none none c e 0 0 w' (fun b => b < w7.heap.size) (fun _ => True) (HRX.out.keep (HR.out.drew_ext.kept _)) HCX.out (HRV.out _)
              rw [HFS.out] at hff
              refine hff.mono ?_
              rintro e' w3 ⟨A1, c1, B1, e1, he, -, hrv, hx⟩
              exact ⟨_, he, γ, LR.of_ext γ hx, fun _ _ _ h => h, A1, c1, B1, e1, rfl, hrv.mono fun b _ hb => fun ⟨k', hk'⟩ => by have := HR.out.old k' b hk' (by simpa using hb); cases this⟩
            · refine LinStep.yes fun vals γ w' ρ hR hN hp hρ hc hf hg => ⟨rfl, ?_⟩
              obtain ⟨A', c', B', e', hv0, hrv0⟩ := hp 8 (by decide)
              have e62 : ρ (.tmp 62) = _ := (hρ 62).trans hv0
              have HRV0 := Lib.hid hrv0
              clear hv0 hrv0
              have hx := hR.drew_ext
              have HR := Lib.hid hR
              have HN := Lib.hid hN
              clear hR hN hp hρ hx
              go_light
              go_simp
              exact ⟨γ, LR.refl _ _, fun _ _ _ h => h, A', c', B', e', rfl, HRV0.out⟩
            · refine LinStep.yes fun vals γ w' ρ hR hN hp hρ hc hf hg => ⟨rfl, ?_⟩
              obtain ⟨A', c', B', e', hv0, hrv0⟩ := hp 9 (by decide)
              have e53 : ρ (.tmp 53) = _ := (hρ 53).trans hv0
              have HRV0 := Lib.hid hrv0
              clear hv0 hrv0
              have hx := hR.drew_ext
              have HR := Lib.hid hR
              have HN := Lib.hid hN
              clear hR hN hp hρ hx
              go_light
              go_simp
              exact ⟨γ, LR.refl _ _, fun _ _ _ h => h, A', c', B', e', rfl, HRV0.out⟩
            · refine LinStep.yes fun vals γ w' ρ hR hN hp hρ hc hf hg => ⟨rfl, ?_⟩
              obtain ⟨A', c', B', e', hv0, hrv0⟩ := hp 9 (by decide)
              have e53 : ρ (.tmp 53) = _ := (hρ 53).trans hv0
              have HRV0 := Lib.hid hrv0
              clear hv0 hrv0
              have hx := hR.drew_ext
              have HR := Lib.hid hR
              have HN := Lib.hid hN
              clear hR hN hp hρ hx
              go_light
              go_simp
              exact ⟨γ, LR.refl _ _, fun _ _ _ h => h, rfl⟩
            · refine LinStep.yes fun vals γ w' ρ hR hN hp hρ hc hf hg => ⟨rfl, ?_⟩
              have hx := hR.drew_ext
              have HR := Lib.hid hR
              have HN := Lib.hid hN
              clear hR hN hp hρ hx
              go_light
              go_simp
              exact ⟨γ.put 12 (some w'.heap.size), LR.new (HN.out.2 ⟨13, rfl⟩) _ _, LN.made, VarAt.new HR.out.inb0 rfl⟩
            · refine LinStep.yes fun vals γ w' ρ hR hN hp hρ hc hf hg => ⟨rfl, ?_⟩
              obtain ⟨A', c', B', e', hv0, hrv0⟩ := hp 10 (by decide)
              have e63 : ρ (.tmp 63) = _ := (hρ 63).trans hv0
              have HRV0 := Lib.hid hrv0
              clear hv0 hrv0
              obtain ⟨g, hv, hcs, hk, hst⟩ := VarAt.store7 (hp 12 (by decide)) (s := 13) (al := al1 13 12) rfl hN
              have e14 : ρ (.tmp 14) = _ := (hρ 14).trans hv
              obtain ⟨⟨x0, x1, x2, x3, x4, x5, x6, k0, k1, k2, k3, k4, k5, k6⟩, kf, kz⟩ := blk7 hcs
              have HST := Lib.hid hst
              have HK := Lib.hid hk
              clear hv hst hcs hk
              have hx := hR.drew_ext
              have HR := Lib.hid hR
              have HN := Lib.hid hN
              clear hR hN hp hρ hx
              go_light
              go_simp
              exact ⟨γ.put 12 none, (HST.out _ _ _ _ _ _ _).1, LN.stored al1_inj rfl HK.out, A', c', B', e', (HST.out _ _ _ _ _ _ _).2, (HST.out _ _ _ _ _ _ _).1.rv HRV0.out⟩
            · refine LinStep.yes fun vals γ w' ρ hR hN hp hρ hc hf hg => ⟨rfl, ?_⟩
              have e64 : ρ (.tmp 64) = .int .i64 cd := (hρ 64).trans (hp 11 (by decide))
              have hx := hR.drew_ext
              have HR := Lib.hid hR
              have HN := Lib.hid hN
              clear hR hN hp hρ hx
              go_light
              go_simp
              exact ⟨γ, LR.refl _ _, fun _ _ _ h => h, rfl⟩
            · intro vals γ w8 hR hG
              obtain ⟨A2, c2, B2, e2, ⟨g2, hv2, hb2, -⟩, hrv2⟩ := hG 13 (by decide)
              have h14 : vals 14 = .int .i64 cd := hG 14 (by decide)
              have hx8 := hR.drew_ext
              have HXC := Lib.hid hx8
              have HG2 := Lib.hid hb2
              have HR2 := Lib.hid hrv2
              have HG1 := Lib.hid (HG17.out.keep (hx8.kept _))
              have HR1 := Lib.hid (HR17.out.keep (hx8.kept _))
              have HGX8 := Lib.hid (HGX.out.keep (hx8.kept _))
              have HRX8 := Lib.hid (HRX.out.keep (hx8.kept _))
              clear hR hG hb2 hrv2 HG17 HR17 HGX HRX HGV HGR
              simp only [lexFrame, Act.put, List.setIfInBounds_toArray, List.set_cons_succ, List.set_cons_zero, Nat.zero_add, Nat.reduceAdd, hv2, h14]
              generalize vals 0 = s0, vals 1 = s1, vals 2 = s2, vals 3 = s3, vals 4 = s4, vals 5 = s5, vals 6 = s6, vals 7 = s7, vals 8 = s8, vals 9 = s9, vals 10 = s10, vals 11 = s11, vals 13 = s13
              clear hv2 h14 hx8
              have HGX := HGX8
              have HRX := HRX8
              obtain ⟨lb, hlb⟩ : ∃ lb, lb = lookR x := ⟨_, rfl⟩
              have HLB := Lib.hid hlb
              clear hlb
              go_upto_region 9 with fail
              refine wp_region_lin_lit (by kernel_rfl) (fun i => [i]) (by kernel_rfl) LR LR.refl LR.trans (LN (al0)) (gF9 gx g1 g2 x A c B e rs cd A1 c1 B1 e1 A2 c2 B2 e2 lb) (gF9_st _ _ _ _ _ _ _ _ _ _ _ _ _ _ _ _ _ _ _) gh0 (LN.zero _) ⟨?_, ?_, ?_, ?_, ?_, ?_, ?_, ?_, ?_, ?_, ?_, ?_, ?_, ?_, ?_, ?_, trivial⟩ ?_
              · refine LinStep.yes fun vals γ w' ρ hR hN hp hρ hc hf hg => ⟨rfl, ?_⟩
                have e13 : ρ (.tmp 13) = .int .i64 cd := hρ 13
                have hx := hR.drew_ext
                have HR := Lib.hid hR
                have HN := Lib.hid hN
                clear hR hN hp hρ hx
                go_light
                go_simp
                exact ⟨γ, LR.refl _ _, fun _ _ _ h => h, rfl⟩
              · refine LinStep.yes fun vals γ w' ρ hR hN hp hρ hc hf hg => ⟨rfl, ?_⟩
                have e15 : ρ (.tmp 15) = .int .i64 cd := hρ 15
                have hx := hR.drew_ext
                have HR := Lib.hid hR
                have HN := Lib.hid hN
                clear hR hN hp hρ hx
                go_light
                go_simp
                exact ⟨γ, LR.refl _ _, fun _ _ _ h => h, rfl⟩
              · refine LinStep.yes fun vals γ w' ρ hR hN hp hρ hc hf hg => ⟨rfl, ?_⟩
                have e65 : ρ (.tmp 65) = .int .i64 cd := (hρ 65).trans (hp 0 (by decide))
                have e66 : ρ (.tmp 66) = .int .i64 cd := (hρ 66).trans (hp 1 (by decide))
                have hx := hR.drew_ext
                have HR := Lib.hid hR
                have HN := Lib.hid hN
                clear hR hN hp hρ hx
                go_light
                go_simp
                exact ⟨γ, LR.refl _ _, fun _ _ _ h => h, rfl⟩
              · refine LinStep.yes fun vals γ w' ρ hR hN hp hρ hc hf hg => ⟨rfl, ?_⟩
                have e67 : ρ (.tmp 67) = .bool false := (hρ 67).trans (hp 2 (by decide))
                have hx := hR.drew_ext
                have HR := Lib.hid hR
                have HN := Lib.hid hN
                clear hR hN hp hρ hx
                go_light
                go_simp
                exact ⟨γ, LR.refl _ _, fun _ _ _ h => h, rfl⟩
              · refine LinStep.yes fun vals γ w' ρ hR hN hp hρ hc hf hg => ⟨by show (boolOf (vals 3) == some false) = true; rw [show vals 3 = .bool false from hp 3 (by decide)]; rfl, ?_⟩
                have e12 : ρ (.tmp 12) = .pointer (some ⟨g1, 0, none⟩) := hρ 12
                have hx := hR.drew_ext
                have c0 := (HG1.out.keep (hx.kept _)).cell (i := 0) rfl
                have c1 := (HG1.out.keep (hx.kept _)).cell (i := 1) rfl
                have c2 := (HG1.out.keep (hx.kept _)).cell (i := 2) rfl
                have c3 := (HG1.out.keep (hx.kept _)).cell (i := 3) rfl
                have c4 := (HG1.out.keep (hx.kept _)).cell (i := 4) rfl
                have c5 := (HG1.out.keep (hx.kept _)).cell (i := 5) rfl
                have c6 := (HG1.out.keep (hx.kept _)).cell (i := 6) rfl
                have HR := Lib.hid hR
                have HN := Lib.hid hN
                clear hR hN hp hρ hx
                go_light
                go_simp
                exact ⟨γ, LR.refl _ _, fun _ _ _ h => h, rfl⟩
              · refine LinStep.yes fun vals γ w' ρ hR hN hp hρ hc hf hg => ⟨by show (boolOf (vals 3) == some false) = true; rw [show vals 3 = .bool false from hp 3 (by decide)]; rfl, ?_⟩
                have e14 : ρ (.tmp 14) = .pointer (some ⟨g2, 0, none⟩) := hρ 14
                have hx := hR.drew_ext
                have c0 := (HG2.out.keep (hx.kept _)).cell (i := 0) rfl
                have c1 := (HG2.out.keep (hx.kept _)).cell (i := 1) rfl
                have c2 := (HG2.out.keep (hx.kept _)).cell (i := 2) rfl
                have c3 := (HG2.out.keep (hx.kept _)).cell (i := 3) rfl
                have c4 := (HG2.out.keep (hx.kept _)).cell (i := 4) rfl
                have c5 := (HG2.out.keep (hx.kept _)).cell (i := 5) rfl
                have c6 := (HG2.out.keep (hx.kept _)).cell (i := 6) rfl
                have HR := Lib.hid hR
                have HN := Lib.hid hN
                clear hR hN hp hρ hx
                go_light
                go_simp
                exact ⟨γ, LR.refl _ _, fun _ _ _ h => h, rfl⟩
              · refine LinStep.yes fun vals γ w' ρ hR hN hp hρ hc hf hg => ⟨by show (boolOf (vals 3) == some false) = true; rw [show vals 3 = .bool false from hp 3 (by decide)]; rfl, ?_⟩
                have e69 : ρ (.tmp 69) = (.agg #[.int .i64 rs.kind, .string rs.s, .int .i64 rs.dn, .int .i64 rs.ds, .int .i64 rs.n, .slice A1 rs.cols.length c1, .slice B1 rs.rows.length e1]) := (hρ 69).trans (hp 4 (by decide))
                have e70 : ρ (.tmp 70) = (.agg #[.int .i64 rs.kind, .string rs.s, .int .i64 rs.dn, .int .i64 rs.ds, .int .i64 rs.n, .slice A2 rs.cols.length c2, .slice B2 rs.rows.length e2]) := (hρ 70).trans (hp 5 (by decide))
                have hx := hR.drew_ext
                have HR := Lib.hid hR
                have HN := Lib.hid hN
                clear hR hN hp hρ hx
                go_light
                go_simp
                refine (r06_Equal 2 rs rs A1 B1 A2 B2 c1 e1 c2 e2 w' _ _ (HR1.out.keep (HR.out.drew_ext.kept _)) (HR2.out.keep (HR.out.drew_ext.kept _))).mono ?_
                rintro e' w3 ⟨he, hx⟩
                rw [decide_eq_true rfl] at he
                exact ⟨_, he, γ, LR.of_ext γ hx, fun _ _ _ h => h, rfl⟩
              · refine LinStep.yes fun vals γ w' ρ hR hN hp hρ hc hf hg => ⟨by show (boolOf (vals 3) == some false) = true; rw [show vals 3 = .bool false from hp 3 (by decide)]; rfl, ?_⟩
                have e71 : ρ (.tmp 71) = .bool true := (hρ 71).trans (hp 6 (by decide))
                have hx := hR.drew_ext
                have HR := Lib.hid hR
                have HN := Lib.hid hN
                clear hR hN hp hρ hx
                go_light
                go_simp
                exact ⟨γ, LR.refl _ _, fun _ _ _ h => h, rfl⟩
              · refine LinStep.yes fun vals γ w' ρ hR hN hp hρ hc hf hg => ⟨rfl, ?_⟩
                have e68 : ρ (.tmp 68) = .bool false := (hρ 68).trans (hp 3 (by decide))
                have e72 : ρ (.tmp 72) = .bool false := (hρ 72).trans (hp 7 (by decide))
                have hx := hR.drew_ext
                have HR := Lib.hid hR
                have HN := Lib.hid hN
                clear hR hN hp hρ hx
                go_light
                go_simp
                exact ⟨γ, LR.refl _ _, fun _ _ _ h => h, rfl⟩
              · refine LinStep.yes fun vals γ w' ρ hR hN hp hρ hc hf hg => ⟨rfl, ?_⟩
                have e73 : ρ (.tmp 73) = .bool false := (hρ 73).trans (hp 8 (by decide))
                have hx := hR.drew_ext
                have HR := Lib.hid hR
                have HN := Lib.hid hN
                clear hR hN hp hρ hx
                go_light
                go_simp
                exact ⟨γ, LR.refl _ _, fun _ _ _ h => h, rfl⟩
              · refine LinStep.yes fun vals γ w' ρ hR hN hp hρ hc hf hg => ⟨by show (boolOf (vals 9) == some false) = true; rw [show vals 9 = .bool false from hp 9 (by decide)]; rfl, ?_⟩
                have e11 : ρ (.tmp 11) = .pointer (some ⟨gx, 0, none⟩) := hρ 11
                have hx := hR.drew_ext
                have c0 := (HGX.out.keep (hx.kept _)).cell (i := 0) rfl
                have c1 := (HGX.out.keep (hx.kept _)).cell (i := 1) rfl
                have c2 := (HGX.out.keep (hx.kept _)).cell (i := 2) rfl
                have HR := Lib.hid hR
                have HN := Lib.hid hN
                clear hR hN hp hρ hx
                go_light
                go_simp
                exact ⟨γ, LR.refl _ _, fun _ _ _ h => h, rfl⟩
              · refine LinStep.yes fun vals γ w' ρ hR hN hp hρ hc hf hg => ⟨by show (boolOf (vals 9) == some false) = true; rw [show vals 9 = .bool false from hp 9 (by decide)]; rfl, ?_⟩
                have e75 : ρ (.tmp 75) = (.agg #[.string x.name, .slice A x.cols.length c, .slice B x.rows.length e]) := (hρ 75).trans (hp 10 (by decide))
                have hx := hR.drew_ext
                have HR := Lib.hid hR
                have HN := Lib.hid hN
                clear hR hN hp hρ hx
                go_light
                go_simp
                refine (table_Right 2 x A B c e w' _ (HRX.out.keep (HR.out.drew_ext.kept _)) HCX.out).mono ?_
                rintro e' w3 ⟨he, hx⟩
                rw [← HLB.out] at he
                exact ⟨_, he, γ, LR.of_ext γ hx, fun _ _ _ h => h, rfl⟩
              · refine LinStep.yes fun vals γ w' ρ hR hN hp hρ hc hf hg => ⟨by show (boolOf (vals 9) == some false) = true; rw [show vals 9 = .bool false from hp 9 (by decide)]; rfl, ?_⟩
                have e11 : ρ (.tmp 11) = .pointer (some ⟨gx, 0, none⟩) := hρ 11
                have hx := hR.drew_ext
                have c0 := (HGX.out.keep (hx.kept _)).cell (i := 0) rfl
                have c1 := (HGX.out.keep (hx.kept _)).cell (i := 1) rfl
                have c2 := (HGX.out.keep (hx.kept _)).cell (i := 2) rfl
                have HR := Lib.hid hR
                have HN := Lib.hid hN
                clear hR hN hp hρ hx
                go_light
                go_simp
                exact ⟨γ, LR.refl _ _, fun _ _ _ h => h, rfl⟩
              · refine LinStep.yes fun vals γ w' ρ hR hN hp hρ hc hf hg => ⟨by show (boolOf (vals 9) == some false) = true; rw [show vals 9 = .bool false from hp 9 (by decide)]; rfl, ?_⟩
                have e77 : ρ (.tmp 77) = (.agg #[.string x.name, .slice A x.cols.length c, .slice B x.rows.length e]) := (hρ 77).trans (hp 12 (by decide))
                have hx := hR.drew_ext
                have HR := Lib.hid hR
                have HN := Lib.hid hN
                clear hR hN hp hρ hx
                go_light
                go_simp
                refine (r09_Right 2 x A B c e w' _ (HRX.out.keep (HR.out.drew_ext.kept _))).mono ?_
                rintro e' w3 ⟨he, hx⟩
                rw [← HLB.out] at he
                exact ⟨_, he, γ, LR.of_ext γ hx, fun _ _ _ h => h, rfl⟩
              · refine LinStep.yes fun vals γ w' ρ hR hN hp hρ hc hf hg => ⟨by show (boolOf (vals 9) == some false) = true; rw [show vals 9 = .bool false from hp 9 (by decide)]; rfl, ?_⟩
                have e76 : ρ (.tmp 76) = .bool lb := (hρ 76).trans (hp 11 (by decide))
                have e78 : ρ (.tmp 78) = .bool lb := (hρ 78).trans (hp 13 (by decide))
                have hx := hR.drew_ext
                have HR := Lib.hid hR
                have HN := Lib.hid hN
                clear hR hN hp hρ hx
                go_light
                go_simp
                refine ⟨γ, LR.refl _ _, fun _ _ _ h => h, ?_⟩
                cases lb <;> rfl
              · refine LinStep.yes fun vals γ w' ρ hR hN hp hρ hc hf hg => ⟨rfl, ?_⟩
                have e74 : ρ (.tmp 74) = .bool false := (hρ 74).trans (hp 9 (by decide))
                have e79 : ρ (.tmp 79) = .bool false := (hρ 79).trans (hp 14 (by decide))
                have hx := hR.drew_ext
                have HR := Lib.hid hR
                have HN := Lib.hid hN
                clear hR hN hp hρ hx
                go_light
                go_simp
                exact ⟨γ, LR.refl _ _, fun _ _ _ h => h, rfl⟩
              · intro vals γ w9 hR hG
                have h15 : vals 15 = .bool false := hG 15 (by decide)
                have HXD := Lib.hid hR.drew_ext
                clear hR hG
                simp only [lexFrame, Act.put, List.setIfInBounds_toArray, List.set_cons_succ, List.set_cons_zero, Nat.zero_add, Nat.reduceAdd, h15]
                clear h15
                go_wp2
                go_roundw
                case rel => exact ⟨k + 1, by omega, by go_num, ((HXA.out.trans HXB.out).trans HXC.out).trans HXD.out⟩
                case measure => simp [intOf]; omega
        · have hk2 : k = 2 := by omega
          subst hk2
          have c0 := (HGT6.out.keep (HE.out.kept _)).cell (i := 0) rfl
          have c1 := (HGT6.out.keep (HE.out.kept _)).cell (i := 1) rfl
          have c2 := (HGT6.out.keep (HE.out.kept _)).cell (i := 2) rfl
          have cz := (HGT6.out.keep (HE.out.kept _)).lt
          go_wp2_with fail
          refine (table_Right 2 t At Bt ct et _ _ (HRL6.out.keep (HE.out.kept _)) HCT.out).mono ?_
          rintro e9 w9 ⟨rfl, hx9⟩
          have HX9 := Lib.hid ((HX6.out.trans HE.out).trans hx9)
          have HMR := Lib.hid (made_right HMT.out (by decide))
          rw [HMR.out]
          clear hx9
          go_wp2
          go_ret
          exact ⟨rfl, HX9.out⟩
end Go.Proofs.YtcmmkeiiapbgcaaGreatDoor
/- A drawn region, taken operation by operation: what is known of each value is found on the way. No conditions. -/
namespace Go.Proofs.YtcmmkeiiapbgcaaGreatDoor
open Go Go.RowKit

/-- What is known of an operation's values. -/
abbrev Ft (Γ : Type) := List Value → Γ → World → Prop
def gOf {Γ : Type} (Φs : List (Ft Γ)) (i : Nat) (vl : List Value) (γ : Γ) (w : World) : Prop := (Φs.getD i fun _ _ _ => True) vl γ w
def Stab {Γ : Type} (R : Γ → World → Γ → World → Prop) (Φ : Ft Γ) : Prop := ∀ l γ w γ' w', R γ w γ' w' → Φ l γ w → Φ l γ' w'
def Chain {Γ : Type} (P : Program) (ops : Array Oper) (D : Nat → List Nat) (R : Γ → World → Γ → World → Prop) (N : Nat → Γ → Prop) (a0 : Act) (γ0 : Γ) (w0 : World) (Qf : List (Ft Γ) → Prop) : Nat → List (Ft Γ) → List Oper → Prop
  | _, done, [] => Qf done.reverse
  | k, done, o :: rest => ∃ Φ : Ft Γ, Stab R Φ ∧ LinStep P ops D R N (gOf (Φ :: done).reverse) a0 γ0 w0 k o ∧ Chain P ops D R N a0 γ0 w0 Qf (k + 1) (Φ :: done) rest
section
variable {Γ : Type} {P : Program} {ops : Array Oper} {D : Nat → List Nat} {R : Γ → World → Γ → World → Prop} {N : Nat → Γ → Prop} {a0 : Act} {γ0 : Γ} {w0 : World} {Qf : List (Ft Γ) → Prop}
theorem gOf_lt {Φs : List (Ft Γ)} {i k : Nat} (h : i < k) : gOf (Φs.take k) i = gOf Φs i := by
  funext vl γ w
  unfold gOf
  rw [List.getD_eq_getElem?_getD, List.getD_eq_getElem?_getD, List.getElem?_take, if_pos h]
theorem Chain.full : ∀ {rest : List Oper} {k : Nat} {done : List (Ft Γ)}, done.length = k → (∀ Φ ∈ done, Stab R Φ) → Chain P ops D R N a0 γ0 w0 Qf k done rest →
    ∃ Φs : List (Ft Γ), Φs.take k = done.reverse ∧ (∀ Φ ∈ Φs, Stab R Φ) ∧ Qf Φs ∧ ∀ i o, rest[i]? = some o → LinStep P ops D R N (gOf (Φs.take (k + i + 1))) a0 γ0 w0 (k + i) o
  | [], k, done, hk, hd, h => ⟨done.reverse, by rw [← hk, ← List.length_reverse]; exact List.take_length, fun Φ hΦ => hd Φ (by simpa using hΦ), h, by simp⟩
  | o :: rest, k, done, hk, hd, h => by
    obtain ⟨Φ, h1, h2, h3⟩ := h
    obtain ⟨Φs, e1, e2, e3, e4⟩ := Chain.full (rest := rest) (k := k + 1) (done := Φ :: done) (by simp [hk]) (fun Ψ hΨ => by
      rcases List.mem_cons.1 hΨ with rfl | hΨ
      · exact h1
      · exact hd Ψ hΨ) h3
    refine ⟨Φs, ?_, e2, e3, fun i o' hi => ?_⟩
    · have := congrArg (List.take k) e1
      rw [List.take_take, Nat.min_eq_left (by omega), List.reverse_cons] at this
      rw [this, List.take_append_of_le_length (by simp [hk]), ← hk, ← List.length_reverse]
      exact List.take_length
    · cases i with
      | zero =>
        simp at hi
        subst hi
        rw [Nat.add_zero, e1]
        exact h2
      | succ i =>
        have := e4 i o' (by simpa using hi)
        rwa [show k + 1 + i = k + (i + 1) by omega] at this
theorem LinStep.congr {G G' : Nat → List Value → Γ → World → Prop} {i : Nat} {o : Oper} (hp : ∀ j ∈ predsOf o, G j = G' j) (hi : G i = G' i) (h : LinStep P ops D R N G a0 γ0 w0 i o) : LinStep P ops D R N G' a0 γ0 w0 i o := by
  intro vals γ w hR hN hpp
  have := h vals γ w hR hN (fun j hj => by rw [hp j hj]; exact hpp j hj)
  rw [hi] at this
  exact this
end
theorem wp_region_chain {Γ : Type} {P : Program} {l : List Oper} {Q : Exit → Act → World → Prop} {id : Nat} {a0 : Act} {w0 : World} (hm : P.follows .mixedOrders = true) (D : Nat → List Nat) (hB : linB l.toArray D a0.tmps.size = true)
    (R : Γ → World → Γ → World → Prop) (hrefl : ∀ γ w, R γ w γ w) (htrans : ∀ γ w γ' w' γ'' w'', R γ w γ' w' → R γ' w' γ'' w'' → R γ w γ'' w'')
    (N : Nat → Γ → Prop) (γ0 : Γ) (hN : ∀ i, N i γ0)
    (h : Chain P l.toArray D R N a0 γ0 w0.drew (fun Φs => ∀ vals γ w, R γ0 w0.drew γ w → (∀ i, i < l.length → gOf Φs i ((D i).map vals) γ w) → Q .normal (lexFrame vals l 0 a0) w) 0 [] l) :
    (Code.region id l.toArray true).wp P Q a0 w0 := by
  obtain ⟨Φs, -, h2, h3, h4⟩ := Chain.full (k := 0) (done := []) rfl (fun _ h => by cases h) h
  obtain ⟨-, -, -, hac, -⟩ := linB_spec hB
  refine wp_region_lin hm D hB R hrefl htrans N (gOf Φs) (fun i l γ w γ' w' r hg => ?_) γ0 hN (fun i o hi => ?_) (fun vals γ w hr hg => h3 vals γ w hr fun i hi => hg i (by simpa using hi))
  · unfold gOf at hg ⊢
    rw [List.getD_eq_getElem?_getD] at hg ⊢
    cases hf : Φs[i]? with
    | none => trivial
    | some Φ =>
      rw [hf] at hg
      exact h2 Φ (List.mem_of_getElem? hf) l γ w γ' w' r hg
  · have := h4 i o (by simpa using hi)
    simp only [Nat.zero_add] at this
    exact this.congr (fun j hj => gOf_lt (by have := hac i o j hi hj; omega)) (gOf_lt (by omega))

/-- One value that is known. -/
def FV {Γ : Type} (x : Value) : Ft Γ := fun vl _ _ => match vl with | [v] => v = x | _ => True
/-- A fact of one value. -/
def FP {Γ : Type} (Φ : Value → Γ → World → Prop) : Ft Γ := fun vl γ w => match vl with | [v] => Φ v γ w | _ => True
theorem FV.stab {Γ : Type} {R : Γ → World → Γ → World → Prop} (x : Value) : Stab R (FV x) := fun _ _ _ _ _ _ h => h
theorem FP.stab {Γ : Type} {R : Γ → World → Γ → World → Prop} {Φ : Value → Γ → World → Prop} (h : ∀ v γ w γ' w', R γ w γ' w' → Φ v γ w → Φ v γ' w') : Stab R (FP Φ) := fun l γ w γ' w' r hf => by
  unfold FP at hf ⊢
  match l, hf with
  | [], _ => trivial
  | [v], hf => exact h v γ w γ' w' r hf
  | _ :: _ :: _, _ => trivial

section
variable {Γ : Type} {P : Program} {ops : Array Oper} {D : Nat → List Nat} {R : Γ → World → Γ → World → Prop} {N : Nat → Γ → Prop} {a0 : Act} {γ0 : Γ} {w0 : World} {Qf : List (Ft Γ) → Prop} {done : List (Ft Γ)} {o : Oper} {rest : List Oper}
theorem gOf_weak {Φ : Ft Γ} {j : Nat} {vl : List Value} {γ : Γ} {w : World} (h : gOf (Φ :: done).reverse j vl γ w) : gOf done.reverse j vl γ w := by
  unfold gOf at h ⊢
  rw [List.getD_eq_getElem?_getD, List.reverse_cons] at h
  rw [List.getD_eq_getElem?_getD]
  rcases Nat.lt_or_ge j done.reverse.length with hj | hj
  · rwa [List.getElem?_append_left hj] at h
  · rw [List.getElem?_eq_none hj]; trivial
theorem gOf_last {Φ : Ft Γ} : gOf (Φ :: done).reverse done.length = Φ := by
  funext vl γ w
  unfold gOf
  rw [List.getD_eq_getElem?_getD, List.reverse_cons, List.getElem?_append_right (by simp)]
  simp
/-- What an operation finds. -/
def Finds (ops : Array Oper) (D : Nat → List Nat) (R : Γ → World → Γ → World → Prop) (N : Nat → Γ → Prop) (a0 : Act) (γ0 : Γ) (w0 : World) (k : Nat) (done : List (Ft Γ)) (o : Oper) (vals : Nat → Value) (γ : Γ) (w : World) (ρ : Operand → Value) (C : Prop) : Prop :=
  R γ0 w0 γ w → N k γ → (∀ j, j ∈ predsOf o → gOf done.reverse j ((D j).map vals) γ w) → (∀ t, ρ (.tmp t) = linLook ops o a0 vals t) → (∀ v, ρ (.const v) = v) → (∀ f, ρ (.func f) = .func (.func f) #[] #[]) → (∀ g, ρ (.global g) = .pointer (some ⟨g, 0, none⟩)) → C
theorem Chain.step {k : Nat} (Φ : Ft Γ) (hk : done.length = k) (hst : Stab R Φ)
    (h : ∀ vals γ w ρ, Finds ops D R N a0 γ0 w0 k done o vals γ w ρ (linWanted o vals = true ∧ linUpon P (fun v w' => ∃ γ', R γ w γ' w' ∧ (∀ j, j ≠ k → j ∉ predsOf o → N j γ → N j γ') ∧ Φ ((D k).map (setV vals k v)) γ' w') ((execOp ρ o).run P w)))
    (next : Chain P ops D R N a0 γ0 w0 Qf (k + 1) (Φ :: done) rest) : Chain P ops D R N a0 γ0 w0 Qf k done (o :: rest) := by
  refine ⟨Φ, hst, fun vals γ w hR hN hp => ?_, next⟩
  obtain ⟨h1, h2⟩ := h vals γ w (linEnv ops o a0 vals) hR hN (fun j hj => gOf_weak (hp j hj)) (fun _ => rfl) (fun _ => rfl) (fun _ => rfl) (fun _ => rfl)
  rw [if_pos h1]
  have e : gOf (Φ :: done).reverse k = Φ := by rw [← hk]; exact gOf_last
  rw [e]
  exact h2
theorem Chain.pure {k : Nat} {x : Value} (hrefl : ∀ γ w, R γ w γ w) (hk : done.length = k)
    (h : ∀ vals γ w ρ, Finds ops D R N a0 γ0 w0 k done o vals γ w ρ (linWanted o vals = true ∧ linUpon P (fun v w' => v = x ∧ w' = w) ((execOp ρ o).run P w)))
    (hD : D k = [k]) (next : Chain P ops D R N a0 γ0 w0 Qf (k + 1) (FV x :: done) rest) : Chain P ops D R N a0 γ0 w0 Qf k done (o :: rest) := by
  refine Chain.step (FV x) hk (FV.stab x) (fun vals γ w ρ hR hN hp h1 h2 h3 h4 => ?_) next
  obtain ⟨g1, g2⟩ := h vals γ w ρ hR hN hp h1 h2 h3 h4
  refine ⟨g1, ?_⟩
  have key : ∀ v w', v = x ∧ w' = w → ∃ γ', R γ w γ' w' ∧ (∀ j, j ≠ k → j ∉ predsOf o → N j γ → N j γ') ∧ FV x ((D k).map (setV vals k v)) γ' w' := by
    rintro v w' ⟨rfl, rfl⟩
    refine ⟨γ, hrefl _ _, fun _ _ _ h => h, ?_⟩
    rw [hD]
    simp [FV, setV]
  revert g2
  cases (execOp ρ o).run P w with
  | ok n w' =>
    cases n with
    | value v => exact key v w'
    | skip => exact key undef w'
    | enter f args => exact fun g2 => g2.mono fun e w'' ⟨v, e1, e2⟩ => ⟨v, e1, key v w'' e2⟩
    | _ => exact id
  | _ => exact id
theorem Chain.no {k : Nat} (hk : done.length = k) (hD : D k = [k]) (h : ∀ vals γ w, (∀ j, j ∈ predsOf o → gOf done.reverse j ((D j).map vals) γ w) → linWanted o vals = false)
    (next : Chain P ops D R N a0 γ0 w0 Qf (k + 1) (FV undef :: done) rest) : Chain P ops D R N a0 γ0 w0 Qf k done (o :: rest) := by
  refine ⟨FV undef, FV.stab _, fun vals γ w hR hN hp => ?_, next⟩
  have h1 := h vals γ w fun j hj => gOf_weak (hp j hj)
  rw [if_neg (by rw [h1]; simp)]
  have e : gOf ((FV undef : Ft Γ) :: done).reverse k = FV undef := by rw [← hk]; exact gOf_last
  rw [e, hD]
  simp [FV, setV]
end

/-- Memory that stays, but for the blocks that wait for a write of the region: variables that the region makes, and own blocks (X m b: the write of the key m writes to b). -/
structure LX (X : Nat → Nat → Prop) (γ : Gh) (w : World) (γ' : Gh) (w' : World) : Prop where
  os : w'.os = w.os
  tape : w'.tape = w.tape
  output : w'.output = w.output
  size : w.heap.size ≤ w'.heap.size
  kept : ∀ b, b < w.heap.size → Free γ b → (∀ m, X m b → γ' m = γ m) → w'.heap[b]? = w.heap[b]?
  shape : ∀ b t cs, Blk w b t cs → (∀ m, ¬ X m b) → ∃ cs', cs'.size = cs.size ∧ Blk w' b t cs'
  old : ∀ k b, γ' k = some (some b) → b < w.heap.size → γ k = some (some b)
  on : ∀ k b, γ k = some (some b) → γ' k = some (some b) ∨ γ' k = some none
  done : ∀ k, γ k = some none → γ' k = some none
  big : ∀ k b, 1000 ≤ k → γ' k = some (some b) → γ k = some (some b)
  inb : (∀ k b, γ k = some (some b) → b < w.heap.size) → ∀ k b, γ' k = some (some b) → b < w'.heap.size
section
variable {X : Nat → Nat → Prop} {γ γ' γ'' : Gh} {w w' w'' : World}
theorem LX.refl (X : Nat → Nat → Prop) (γ : Gh) (w : World) : LX X γ w γ w := ⟨rfl, rfl, rfl, Nat.le_refl _, fun _ _ _ _ => rfl, fun _ _ cs h _ => ⟨cs, rfl, h⟩, fun _ _ h _ => h, fun _ _ h => .inl h, fun _ h => h, fun _ _ _ h => h, fun h => h⟩
theorem LX.free (h : LX X γ w γ' w') {b : Nat} (hb : b < w.heap.size) (hf : Free γ b) : Free γ' b := fun ⟨k, hk⟩ => hf ⟨k, h.old k b hk hb⟩
/-- A key's state only goes forward: if the last state is the first, so is each between. -/
theorem LX.mid (h : LX X γ w γ' w') (k : LX X γ' w' γ'' w'') {m : Nat} (e : γ'' m = γ m) : γ' m = γ m ∧ γ'' m = γ' m := by
  cases h0 : γ m with
  | none =>
    rw [h0] at e
    cases h1 : γ' m with
    | none => exact ⟨rfl, e⟩
    | some x =>
      cases x with
      | none => rw [k.done m h1] at e; cases e
      | some b => rcases k.on m b h1 with h2 | h2 <;> (rw [h2] at e; cases e)
  | some x =>
    cases x with
    | none =>
      have h1 := h.done m h0
      exact ⟨h1, (k.done m h1).trans h1.symm⟩
    | some b =>
      rw [h0] at e
      rcases h.on m b h0 with h1 | h1
      · exact ⟨h1, e.trans h1.symm⟩
      · rw [k.done m h1] at e; cases e
theorem LX.trans (X : Nat → Nat → Prop) (γ : Gh) (w : World) (γ' : Gh) (w' : World) (γ'' : Gh) (w'' : World) (h : LX X γ w γ' w') (k : LX X γ' w' γ'' w'') : LX X γ w γ'' w'' where
  os := k.os.trans h.os
  tape := k.tape.trans h.tape
  output := k.output.trans h.output
  size := Nat.le_trans h.size k.size
  kept b hb hf hm := (k.kept b (Nat.lt_of_lt_of_le hb h.size) (h.free hb hf) (fun m hX => (h.mid k (hm m hX)).2)).trans (h.kept b hb hf fun m hX => (h.mid k (hm m hX)).1)
  shape b t cs hc hX := by
    obtain ⟨c1, e1, h1⟩ := h.shape b t cs hc hX
    obtain ⟨c2, e2, h2⟩ := k.shape b t c1 h1 hX
    exact ⟨c2, e2.trans e1, h2⟩
  old i b hi hb := h.old i b (k.old i b hi (Nat.lt_of_lt_of_le hb h.size)) hb
  on i b hi := by
    rcases h.on i b hi with h1 | h1
    · exact k.on i b h1
    · exact .inr (k.done i h1)
  done i hi := k.done i (h.done i hi)
  big i b hi hb := h.big i b hi (k.big i b hi hb)
  inb hi := k.inb (h.inb hi)
theorem LX.of_ext (X : Nat → Nat → Prop) (γ : Gh) (h : Ext w w') : LX X γ w γ w' :=
  ⟨h.os, h.tape, h.output, h.size, fun b hb _ _ => h.block b hb, fun _b _t cs hc _ => ⟨cs, rfl, hc.keep (h.kept _)⟩, fun _ _ h _ => h, fun _ _ h => .inl h, fun _ h => h, fun _ _ _ h => h, fun hi i b hb => Nat.lt_of_lt_of_le (hi i b hb) h.size⟩
theorem LX.new {k : Nat} (hl : k < 1000) (hk : γ k = none) (w : World) (o : Obj) : LX X γ w (γ.put k (some w.heap.size)) (w.alloc o) := by
  have h := (Ext.refl w).alloc o
  refine ⟨h.os, h.tape, h.output, h.size, fun b hb _ _ => h.block b hb, fun b t cs hc _ => ⟨cs, rfl, hc.keep (h.kept _)⟩, ?_, ?_, ?_, ?_, ?_⟩
  · intro j b hj hb
    unfold Gh.put at hj
    split at hj
    · simp at hj; omega
    · exact hj
  · intro j b hj
    left
    unfold Gh.put
    rw [if_neg (fun e => by subst e; rw [hk] at hj; cases hj)]
    exact hj
  · intro j hj
    unfold Gh.put
    rw [if_neg (fun e => by subst e; rw [hk] at hj; cases hj)]
    exact hj
  · intro j b hj hb
    unfold Gh.put at hb
    split at hb
    · omega
    · exact hb
  · intro hi j b hj
    unfold Gh.put at hj
    split at hj
    · simp at hj; subst hj; simp
    · have := hi j b hj; simp; omega
theorem LX.inb0 (h : LX X gh0 w γ' w') : ∀ k b, γ' k = some (some b) → b < w'.heap.size := h.inb fun k b hk => by cases hk
/-- What the region has not made and no write has reached is as it was. -/
theorem LX.keptS (h : LX X γ w γ' w') {S : Nat → Prop} (hS : ∀ b, b < w.heap.size → S b → Free γ b ∧ ∀ m, X m b → γ' m = γ m) : Kept S w w' := ⟨h.size, fun b hs hb => h.kept b hb (hS b hb hs).1 (hS b hb hs).2⟩
theorem free0 (b : Nat) : Free gh0 b := fun ⟨_, hk⟩ => by cases hk
theorem LX.kept0 (h : LX X gh0 w.drew γ' w') {S : Nat → Prop} (hS : ∀ b, S b → ∀ m, ¬ X m b) : Kept S w w' := (Kept.drew S w).trans (h.keptS fun b _ hb => ⟨free0 b, fun m hX => absurd hX (hS b hb m)⟩)
theorem LX.ext0 (h : LX X gh0 w.drew γ' w') (hX : ∀ m b, X m b → γ' m = none) : Ext w w' := (Ext.refl w).drew.trans ⟨h.os, h.tape, h.output, h.size, fun b hb => h.kept b hb (free0 b) fun m hm => hX m b hm⟩
/-- A variable that the region made is stored. -/
theorem LX.store {k g t : Nat} {cs cs' : Array Value} (hk : γ k = some (some g)) (hu : ∀ j, γ j = some (some g) → j = k) (ho : Only g w w') (hb : Blk w g t cs) (hb' : Blk w' g t cs') (hs : cs'.size = cs.size) :
    LX X γ w (γ.put k none) w' := by
  refine ⟨ho.os, ho.tape, ho.output, Nat.le_of_eq ho.size.symm, fun b _ hf _ => ho.block b (fun e => hf ⟨k, by rw [hk, e]⟩), ?_, ?_, ?_, ?_, ?_, ?_⟩
  · intro b t' c hc _
    by_cases hbg : b = g
    · subst hbg
      have := hb.symm.trans hc
      simp at this
      obtain ⟨rfl, rfl⟩ := this
      exact ⟨cs', hs, hb'⟩
    · exact ⟨c, rfl, (ho.block b hbg).trans hc⟩
  · intro j b hj _
    unfold Gh.put at hj
    split at hj
    · cases hj
    · exact hj
  · intro j b hj
    unfold Gh.put
    split
    · exact .inr rfl
    · exact .inl hj
  · intro j hj
    unfold Gh.put
    split
    · rfl
    · exact hj
  · intro j b _ hj
    unfold Gh.put at hj
    split at hj
    · cases hj
    · exact hj
  · intro hi j b hj
    unfold Gh.put at hj
    split at hj
    · cases hj
    · rw [ho.size]; exact hi j b hj
/-- A write of the key m to own blocks. -/
theorem LX.write {m : Nat} (hm : γ m = none) (hos : w'.os = w.os) (ht : w'.tape = w.tape) (hou : w'.output = w.output) (hz : w.heap.size ≤ w'.heap.size) (hb : ∀ b, b < w.heap.size → ¬ X m b → w'.heap[b]? = w.heap[b]?) : LX X γ w (γ.put m none) w' := by
  refine ⟨hos, ht, hou, hz, fun b hl _ hX => hb b hl fun h => ?_, fun b t cs hc hX => ⟨cs, rfl, (hb b hc.lt (hX m)).trans hc⟩, ?_, ?_, ?_, ?_, ?_⟩
  · have := hX m h
    rw [hm] at this
    simp [Gh.put] at this
  · intro j b hj _
    unfold Gh.put at hj
    split at hj
    · cases hj
    · exact hj
  · intro j b hj
    unfold Gh.put
    split
    · exact .inr rfl
    · exact .inl hj
  · intro j hj
    unfold Gh.put
    split
    · rfl
    · exact hj
  · intro j b _ hj
    unfold Gh.put at hj
    split at hj
    · cases hj
    · exact hj
  · intro hi j b hj
    unfold Gh.put at hj
    split at hj
    · cases hj
    · exact Nat.lt_of_lt_of_le (hi j b hj) hz
end
/-- Keys that must not be done before an operation. -/
def alF (l : List (Nat × List Nat)) : Nat → List Nat := fun j => (l.lookup j).getD []
/-- Of an operation that is still to come: its keys are not done; the variable that it makes is not made. -/
def LM (l : List (Nat × List Nat)) (i : Nat) (γ : Gh) : Prop := (∀ k ∈ alF l i, γ k ≠ some none) ∧ (i < 1000 → (∃ s, i ∈ alF l s) → γ i = none)
theorem LM.zero (l : List (Nat × List Nat)) (i : Nat) : LM l i gh0 := ⟨fun _ _ h => (by cases h), fun _ _ => rfl⟩
theorem alF_ok {l : List (Nat × List Nat)} {k s : Nat} {p : List Nat} (h : (l.all fun q => !(q.2.contains k) || decide (q.1 = s) || p.contains q.1) = true) : ∀ j, k ∈ alF l j → j = s ∨ j ∈ p := by
  intro j hj
  unfold alF at hj
  cases hl : l.lookup j with
  | none => rw [hl] at hj; simp at hj
  | some x =>
    rw [hl] at hj
    have hm : (j, x) ∈ l := by
      clear h hj
      induction l with
      | nil => simp at hl
      | cons q l ih =>
        rw [List.lookup_cons] at hl
        split at hl
        · rename_i he
          obtain rfl := Option.some.inj hl
          have : j = q.1 := by simpa using he
          rw [this]; exact List.mem_cons_self
        · exact List.mem_cons_of_mem _ (ih hl)
    have := List.all_eq_true.1 h (j, x) hm
    simp only [Bool.or_eq_true, Bool.not_eq_true', decide_eq_true_eq, List.contains_iff_mem] at this
    have hk : k ∈ x := by simpa using hj
    rcases this with (h1 | h1) | h1
    · rw [← Bool.not_eq_true, List.contains_iff_mem] at h1; exact absurd hk h1
    · exact .inl h1
    · exact .inr h1
theorem LM.made {l : List (Nat × List Nat)} {γ : Gh} {i x : Nat} {p : List Nat} : ∀ j, j ≠ i → j ∉ p → LM l j γ → LM l j (γ.put i (some x)) := by
  rintro j hj - ⟨h1, h2⟩
  refine ⟨fun k hk => ?_, fun hl hs => ?_⟩
  · unfold Gh.put
    split
    · simp
    · exact h1 k hk
  · unfold Gh.put
    rw [if_neg hj]
    exact h2 hl hs
theorem LM.done {l : List (Nat × List Nat)} {γ : Gh} {s k : Nat} {p : List Nat} (h : (l.all fun q => !(q.2.contains k) || decide (q.1 = s) || p.contains q.1) = true) (hk : (∃ g, γ k = some (some g)) ∨ 1000 ≤ k) : ∀ j, j ≠ s → j ∉ p → LM l j γ → LM l j (γ.put k none) := by
  rintro j hj hp ⟨h1, h2⟩
  refine ⟨fun k' hk' => ?_, fun hl hs' => ?_⟩
  · unfold Gh.put
    rw [if_neg (fun e => by
      subst e
      rcases alF_ok h j hk' with h3 | h3
      · exact hj h3
      · exact hp h3)]
    exact h1 k' hk'
  · unfold Gh.put
    rw [if_neg (fun e => by
      subst e
      rcases hk with ⟨g, hk⟩ | hk
      · rw [h2 hl hs'] at hk; cases hk
      · omega)]
    exact h2 hl hs'
section
variable {X : Nat → Nat → Prop} {γ γ' : Gh} {w w' : World}
theorem LX.key0 (h : LX X gh0 w γ w') {l : List (Nat × List Nat)} {i k : Nat} (hN : LM l i γ) (hk : k ∈ alF l i) (h1 : 1000 ≤ k) : γ k = none := by
  cases hg : γ k with
  | none => rfl
  | some x =>
    cases x with
    | none => exact absurd hg (hN.1 k hk)
    | some b => have := h.big k b h1 hg; cases this
/-- The call's world so far is still that of its beginning. -/
theorem LX.extB (h : LX X gh0 w.drew γ' w') {w00 : World} (hx : Ext w00 w) (hX : ∀ m b, X m b → w00.heap.size ≤ b) : Ext w00 w' :=
  ⟨h.os.trans hx.os, h.tape.trans hx.tape, h.output.trans hx.output, Nat.le_trans hx.size h.size, fun b hb => (h.kept b (Nat.lt_of_lt_of_le hb hx.size) (free0 b) fun m hm => by have := hX m b hm; omega).trans (hx.block b hb)⟩
end
end Go.Proofs.YtcmmkeiiapbgcaaGreatDoor
/- The reference's digits: trim. Conditions: the digits read as data. -/
namespace Go.Proofs.YtcmmkeiiapbgcaaGreatDoor
open Go Go.RowKit

/-- Digits to the base 2^24, the least significant one first. -/
def dval : List Nat → Nat
  | [] => 0
  | d :: l => d + 16777216 * dval l
def dgs (l : List Nat) : Prop := ∀ d ∈ l, d < 16777216
/-- No zero at the end. -/
def trd (l : List Nat) : Prop := l.getLast? ≠ some 0
def nums (l : List Nat) : List Int := l.map fun d : Nat => (d : Int)
theorem nums_len (l : List Nat) : (nums l).length = l.length := by simp [nums]
def trimN : List Nat → List Nat
  | [] => []
  | d :: l => if trimN l = [] ∧ d = 0 then [] else d :: trimN l
theorem trimN_snoc0 : ∀ (l : List Nat), trimN (l ++ [0]) = trimN l
  | [] => by simp [trimN]
  | d :: l => by simp only [List.cons_append, trimN, trimN_snoc0 l]
theorem trimN_snoc {d : Nat} (h : d ≠ 0) : ∀ (l : List Nat), trimN (l ++ [d]) = l ++ [d]
  | [] => by simp [trimN, h]
  | e :: l => by
    simp only [List.cons_append, trimN, trimN_snoc h l]
    simp
theorem dval_snoc0 : ∀ (l : List Nat), dval (l ++ [0]) = dval l
  | [] => rfl
  | d :: l => by simp only [List.cons_append, dval, dval_snoc0 l]
theorem trimN_ok : ∀ (l : List Nat), dval (trimN l) = dval l ∧ trd (trimN l) ∧ (dgs l → dgs (trimN l)) ∧ (trimN l).length ≤ l.length ∧ trimN l <+: l
  | [] => ⟨rfl, by simp [trd, trimN], fun h => h, Nat.le_refl _, List.prefix_refl _⟩
  | d :: l => by
    obtain ⟨h1, h2, h3, h4, h5⟩ := trimN_ok l
    unfold trimN
    split
    · rename_i h
      obtain ⟨e1, rfl⟩ := h
      rw [e1] at h1
      refine ⟨?_, by simp [trd], fun _ => by simp [dgs], by simp, by simp⟩
      simp only [dval] at h1 ⊢
      omega
    · rename_i h
      refine ⟨by simp only [dval, h1], ?_, fun hd => ?_, by simpa using h4, by simpa using h5⟩
      · unfold trd at h2 ⊢
        cases ht : trimN l with
        | nil =>
          rw [ht] at h
          simpa using h
        | cons e m => rw [ht] at h2; simpa [List.getLast?_cons_cons] using h2
      · intro x hx
        rcases List.mem_cons.1 hx with rfl | hx
        · exact hd x List.mem_cons_self
        · exact h3 (fun y hy => hd y (List.mem_cons_of_mem _ hy)) x hx
theorem trd_nil_iff {l : List Nat} (h : trd l) : l = [] ↔ dval l = 0 := by
  constructor
  · rintro rfl; rfl
  · intro hv
    rcases List.eq_nil_or_concat l with rfl | ⟨m, d, rfl⟩
    · rfl
    · exfalso
      rw [List.concat_eq_append] at h hv
      have hd : d ≠ 0 := by simpa [trd] using h
      have : ∀ m : List Nat, 0 < dval (m ++ [d]) := by
        intro m
        induction m with
        | nil => simp [dval]; omega
        | cons e m ih => simp only [List.cons_append, dval]; omega
      have := this m
      omega

set_option maxHeartbeats 1000000 in
theorem r01_trim (l : List Nat) (A : Option Addr) (c : Nat) (w : World) (S : Nat → Prop) (h : Ints w S A (nums l)) (hcap : l.length ≤ c) :
    Calls Tryz.prog 152 #[.slice A l.length c] w (fun e w' => e = .returned (.slice A (trimN l).length c) ∧ w = w') := by
  have H := Lib.hid h
  have hlen : l.length ≤ 4294967296 := by have := h.2; rwa [nums_len] at this
  clear h
  go_enter Tryz.func152, Tryz.ntmps152
  go_wp2
  go_loop [0] (fun v => ∃ k : Nat, k ≤ l.length ∧ trimN (l.take k) = trimN l ∧ v = .slice A k c) (fun v => match v with | .slice _ n _ => n | _ => 0)
  case atStart => exact ⟨l.length, Nat.le_refl _, by rw [List.take_length], rfl⟩
  case round =>
    obtain ⟨k, hk, htk, rfl⟩ := hrel
    have HT := Lib.hid htk
    clear htk
    cases k with
    | zero =>
      go_wp2
      go_ret
      have := HT.out
      simp only [List.take_zero, trimN] at this
      exact ⟨by rw [← this]; rfl, rfl⟩
    | succ j =>
      obtain ⟨b, o, hA, hb, hc⟩ := H.out.at_ (k := j) (by rw [nums_len]; omega)
      subst hA
      obtain ⟨d, hd⟩ : ∃ d, d = l[j] := ⟨_, rfl⟩
      have hc' : w.cell? ⟨b, o + j, none⟩ = some (.int .i64 (d : Int)) := by rw [hc, hd]; simp [nums]
      have htake : l.take (j + 1) = l.take j ++ [d] := by rw [List.take_succ_eq_append_getElem (by omega), hd]
      have HK := Lib.hid htake
      clear hc htake hd
      by_cases h0 : d = 0
      · have e0 : ((d : Int) == 0) = true := by simp [h0]
        have hjc : (j : Int) ≤ (c : Int) := by omega
        have HZ := Lib.hid h0
        clear h0
        go_wp2
        go_round
        case rel => exact ⟨j, by omega, by rw [← HT.out, HK.out, HZ.out, trimN_snoc0], by simp⟩
        case measure => simp
      · have e0 : ((d : Int) == 0) = false := by simp [h0]
        go_wp2
        go_ret
        refine ⟨?_, rfl⟩
        have := HT.out
        rw [HK.out, trimN_snoc h0, ← HK.out] at this
        rw [← this]
        simp only [List.length_take, Array.getD]
        simp; omega
end Go.Proofs.YtcmmkeiiapbgcaaGreatDoor
