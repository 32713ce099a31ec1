/- The law TableSelects: true. Conditions: the arguments read as data; the table of tens is there. -/
import Derived.Test.YtcmmkeiiapbgcaaGreatDoorBa17
namespace Go.Proofs.YtcmmkeiiapbgcaaGreatDoor
open Go Go.RowKit
def vS8 (gq : Nat) (r1 : Int) (kI : Nat) (kd : Int) (xv : Val) : Nat → Value
  | 1 => .pointer (some ⟨gq, 1, none⟩)
  | 2 => .int .i64 r1
  | 3 => .int .i64 (r1.tdiv 5)
  | 4 => .int .i64 ((r1.tdiv 5).tmod 3)
  | 5 => .int .i64 ((r1.tdiv 5).tmod 3 + 3)
  | 6 => .int .i64 (kI : Int)
  | 8 => .int .i64 kd
  | 9 => .pointer (some ⟨gq, 1, none⟩)
  | 10 => .int .i64 r1
  | 11 => (.agg #[.int .i64 xv.kind, .string xv.s, .int .i64 xv.dn, .int .i64 xv.ds, .int .i64 xv.n, .slice none xv.cols.length 0, .slice none xv.rows.length 0])
  | _ => undef
def gS8 (gq : Nat) (r1 : Int) (kI : Nat) (kd : Int) (xv : Val) (ix : Nat) (vl : List Value) (γ : Gh) (w' : World) : Prop := match vl with
  | [v] => if ix = 0 then (∃ g : Nat, v = .slice (some ⟨g, 0, none⟩) 3 3 ∧ Blk w' g 3 #[.int .i64 1, .int .i64 2, .int .i64 3] ∧ Free γ g) else if ix = 7 then (∃ g : Nat, v = .pointer (some ⟨g, kI, none⟩) ∧ Blk w' g 3 #[.int .i64 1, .int .i64 2, .int .i64 3] ∧ Free γ g) else if ix = 12 then (VarAt 12 33 7 v γ w') else v = vS8 gq r1 kI kd xv ix
  | [p, _] => VarIs 33 p #[.int .i64 xv.kind, .string xv.s, .int .i64 xv.dn, .int .i64 xv.ds, .int .i64 xv.n, .slice none xv.cols.length 0, .slice none xv.rows.length 0] γ w'
  | _ => True
theorem gS8_st (gq : Nat) (r1 : Int) (kI : Nat) (kd : Int) (xv : Val) : ∀ ix vl γ w γ' w', LR γ w γ' w' → gS8 gq r1 kI kd xv ix vl γ w → gS8 gq r1 kI kd xv ix vl γ' w' := by
  intro ix vl γ w γ' w' r h
  match vl, h with
  | [v], h =>
    unfold gS8 at h ⊢
    by_cases h0 : ix = 0
    · simp only [if_pos h0] at h ⊢
      obtain ⟨g, h0, h1, h2⟩ := h
      exact ⟨g, h0, r.blk h2 h1, r.free h1.lt h2⟩
    simp only [if_neg h0] at h ⊢
    by_cases h7 : ix = 7
    · simp only [if_pos h7] at h ⊢
      obtain ⟨g, h0, h1, h2⟩ := h
      exact ⟨g, h0, r.blk h2 h1, r.free h1.lt h2⟩
    simp only [if_neg h7] at h ⊢
    by_cases h12 : ix = 12
    · simp only [if_pos h12] at h ⊢
      exact VarAt.lr r h
    simp only [if_neg h12] at h ⊢
    exact h
  | [], _ => trivial
  | [p, _], h => exact VarIs.lr r h
  | _ :: _ :: _ :: _, _ => trivial
def vS9 (_gt : Nat) (_gq : Nat) (_gv : Nat) (t : Look) (tv : Val) (At : Option Addr) (ct : Nat) (Bt : Option Addr) (et : Nat) (q0 : Int) (q1 : Int) (q2 : Int) (xv : Val) : Nat → Value
  | 0 => (.agg #[.string t.name, .slice At t.cols.length ct, .slice Bt t.rows.length et])
  | 1 => (.agg #[.int .i64 tv.kind, .string tv.s, .int .i64 tv.dn, .int .i64 tv.ds, .int .i64 tv.n, .slice At tv.cols.length ct, .slice Bt tv.rows.length et])
  | 2 => (.agg #[.string t.name, .slice At t.cols.length ct, .slice Bt t.rows.length et])
  | 3 => .agg #[.int .i64 q0, .int .i64 q1, .int .i64 q2]
  | 6 => (.agg #[.int .i64 xv.kind, .string xv.s, .int .i64 xv.dn, .int .i64 xv.ds, .int .i64 xv.n, .slice none xv.cols.length 0, .slice none xv.rows.length 0])
  | 8 => .int .i64 3
  | 9 => .int .i64 0
  | _ => undef
def gS9 (gt : Nat) (gq : Nat) (gv : Nat) (t : Look) (tv : Val) (At : Option Addr) (ct : Nat) (Bt : Option Addr) (et : Nat) (q0 : Int) (q1 : Int) (q2 : Int) (xv : Val) (ix : Nat) (vl : List Value) (γ : Gh) (w' : World) : Prop := match vl with
  | [v] => if ix = 4 then (∃ (t' : Look) (A' : Option Addr) (c' : Nat) (B' : Option Addr) (e' : Nat), v = (.agg #[.string t'.name, .slice A' t'.cols.length c', .slice B' t'.rows.length e']) ∧ ((t'.cols.length ≤ c' ∧ t'.rows.length ≤ e') ∧ RL w' (Free γ) 2 t' A' B')) else if ix = 5 then (∃ (x' : Val) (A' : Option Addr) (c' : Nat) (B' : Option Addr) (e' : Nat), v = (.agg #[.int .i64 x'.kind, .string x'.s, .int .i64 x'.dn, .int .i64 x'.ds, .int .i64 x'.n, .slice A' x'.cols.length c', .slice B' x'.rows.length e']) ∧ ((x'.cols.length ≤ c' ∧ x'.rows.length ≤ e') ∧ RV w' (Free γ) 2 x' A' B')) else if ix = 7 then (∃ (g : Nat) (x' : Val) (A' : Option Addr) (c' : Nat) (B' : Option Addr) (e' : Nat), v = .slice (some ⟨g, 0, none⟩) 3 3 ∧ (Blk w' g 33 #[.int .i64 tv.kind, .string tv.s, .int .i64 tv.dn, .int .i64 tv.ds, .int .i64 tv.n, .slice At tv.cols.length ct, .slice Bt tv.rows.length et, .int .i64 x'.kind, .string x'.s, .int .i64 x'.dn, .int .i64 x'.ds, .int .i64 x'.n, .slice A' x'.cols.length c', .slice B' x'.rows.length e', .int .i64 xv.kind, .string xv.s, .int .i64 xv.dn, .int .i64 xv.ds, .int .i64 xv.n, .slice none xv.cols.length 0, .slice none xv.rows.length 0] ∧ Free γ g) ∧ ((x'.cols.length ≤ c' ∧ x'.rows.length ≤ e') ∧ RV w' (Free γ) 2 x' A' B')) else v = vS9 gt gq gv t tv At ct Bt et q0 q1 q2 xv ix
  | _ => True
theorem gS9_st (gt : Nat) (gq : Nat) (gv : Nat) (t : Look) (tv : Val) (At : Option Addr) (ct : Nat) (Bt : Option Addr) (et : Nat) (q0 : Int) (q1 : Int) (q2 : Int) (xv : Val) : ∀ ix vl γ w γ' w', LR γ w γ' w' → gS9 gt gq gv t tv At ct Bt et q0 q1 q2 xv ix vl γ w → gS9 gt gq gv t tv At ct Bt et q0 q1 q2 xv ix vl γ' w' := by
  intro ix vl γ w γ' w' r h
  match vl, h with
  | [v], h =>
    unfold gS9 at h ⊢
    by_cases h4 : ix = 4
    · simp only [if_pos h4] at h ⊢
      obtain ⟨t', A', c', B', e', h0, h1, h2⟩ := h
      exact ⟨t', A', c', B', e', h0, h1, ⟨h2.1, r.strs h2.2.1, r.rows h2.2.2⟩⟩
    simp only [if_neg h4] at h ⊢
    by_cases h5 : ix = 5
    · simp only [if_pos h5] at h ⊢
      obtain ⟨x', A', c', B', e', h0, h1, h2⟩ := h
      exact ⟨x', A', c', B', e', h0, h1, r.rv h2⟩
    simp only [if_neg h5] at h ⊢
    by_cases h7 : ix = 7
    · simp only [if_pos h7] at h ⊢
      obtain ⟨g, x', A', c', B', e', h0, ⟨h3, h4⟩, h1, h2⟩ := h
      exact ⟨g, x', A', c', B', e', h0, ⟨r.blk h4 h3, r.free h3.lt h4⟩, h1, r.rv h2⟩
    simp only [if_neg h7] at h ⊢
    exact h
  | [], _ => trivial
  | _ :: _ :: _, _ => trivial
def vS12 (gq : Nat) (_gv : Nat) (_gx : Nat) (q2 : Int) (xv : Val) (x : Val) (A : Option Addr) (c : Nat) (B : Option Addr) (e : Nat) (_rs : Val) (cd : Int) : Nat → Value
  | 0 => (.agg #[.int .i64 x.kind, .string x.s, .int .i64 x.dn, .int .i64 x.ds, .int .i64 x.n, .slice A x.cols.length c, .slice B x.rows.length e])
  | 1 => .pointer (some ⟨gq, 2, none⟩)
  | 2 => .int .i64 q2
  | 3 => .string (nameS q2)
  | 4 => (.agg #[.int .i64 xv.kind, .string xv.s, .int .i64 xv.dn, .int .i64 xv.ds, .int .i64 xv.n, .slice none xv.cols.length 0, .slice none xv.rows.length 0])
  | 8 => .int .i64 cd
  | 11 => .int .i64 cd
  | _ => undef
def gS12 (gq : Nat) (gv : Nat) (gx : Nat) (q2 : Int) (xv : Val) (x : Val) (A : Option Addr) (c : Nat) (B : Option Addr) (e : Nat) (rs : Val) (cd : Int) (ix : Nat) (vl : List Value) (γ : Gh) (w' : World) : Prop := match vl with
  | [v] => if ix = 5 then (∃ (A' : Option Addr) (c' : Nat) (B' : Option Addr) (e' : Nat), v = .tuple #[(.agg #[.int .i64 rs.kind, .string rs.s, .int .i64 rs.dn, .int .i64 rs.ds, .int .i64 rs.n, .slice A' rs.cols.length c', .slice B' rs.rows.length e']), .int .i64 cd] ∧ RV w' (Free γ) 2 rs A' B') else if ix = 6 then (∃ (A' : Option Addr) (c' : Nat) (B' : Option Addr) (e' : Nat), v = .tuple #[(.agg #[.int .i64 rs.kind, .string rs.s, .int .i64 rs.dn, .int .i64 rs.ds, .int .i64 rs.n, .slice A' rs.cols.length c', .slice B' rs.rows.length e']), .int .i64 cd] ∧ RV w' (Free γ) 2 rs A' B') else if ix = 7 then (∃ (A' : Option Addr) (c' : Nat) (B' : Option Addr) (e' : Nat), v = (.agg #[.int .i64 rs.kind, .string rs.s, .int .i64 rs.dn, .int .i64 rs.ds, .int .i64 rs.n, .slice A' rs.cols.length c', .slice B' rs.rows.length e']) ∧ RV w' (Free γ) 2 rs A' B') else if ix = 9 then (VarAt 9 33 7 v γ w') else v = vS12 gq gv gx q2 xv x A c B e rs cd ix
  | [p, _] => ∃ (A' : Option Addr) (c' : Nat) (B' : Option Addr) (e' : Nat), VarIs 33 p #[.int .i64 rs.kind, .string rs.s, .int .i64 rs.dn, .int .i64 rs.ds, .int .i64 rs.n, .slice A' rs.cols.length c', .slice B' rs.rows.length e'] γ w' ∧ RV w' (Free γ) 2 rs A' B'
  | _ => True
theorem gS12_st (gq : Nat) (gv : Nat) (gx : Nat) (q2 : Int) (xv : Val) (x : Val) (A : Option Addr) (c : Nat) (B : Option Addr) (e : Nat) (rs : Val) (cd : Int) : ∀ ix vl γ w γ' w', LR γ w γ' w' → gS12 gq gv gx q2 xv x A c B e rs cd ix vl γ w → gS12 gq gv gx q2 xv x A c B e rs cd ix vl γ' w' := by
  intro ix vl γ w γ' w' r h
  match vl, h with
  | [v], h =>
    unfold gS12 at h ⊢
    by_cases h5 : ix = 5
    · simp only [if_pos h5] at h ⊢
      obtain ⟨A', c', B', e', h0, h1⟩ := h
      exact ⟨A', c', B', e', h0, r.rv h1⟩
    simp only [if_neg h5] at h ⊢
    by_cases h6 : ix = 6
    · simp only [if_pos h6] at h ⊢
      obtain ⟨A', c', B', e', h0, h1⟩ := h
      exact ⟨A', c', B', e', h0, r.rv h1⟩
    simp only [if_neg h6] at h ⊢
    by_cases h7 : ix = 7
    · simp only [if_pos h7] at h ⊢
      obtain ⟨A', c', B', e', h0, h1⟩ := h
      exact ⟨A', c', B', e', h0, r.rv h1⟩
    simp only [if_neg h7] at h ⊢
    by_cases h9 : ix = 9
    · simp only [if_pos h9] at h ⊢
      exact VarAt.lr r h
    simp only [if_neg h9] at h ⊢
    exact h
  | [], _ => trivial
  | [p, _], h => exact (by obtain ⟨A', c', B', e', h0, h1⟩ := h; exact ⟨A', c', B', e', VarIs.lr r h0, r.rv h1⟩)
  | _ :: _ :: _ :: _, _ => trivial
set_option maxRecDepth 100000 in
set_option maxHeartbeats 4000000 in
theorem law_Selects (l : List Int) (q0 r1 q2 : Int) (ps : List Int) (A Ap : Option Addr) (c cp : Nat) (w : World) (S : Nat → Prop) (ht : Tens w) (hl : IntsL w S A l) (hps : IntsL w S Ap ps) (hr1 : -9223372036854775808 ≤ r1 ∧ r1 ≤ 9223372036854775807) :
    Calls Tryz.prog 6 #[.slice A l.length c, .agg #[.int .i64 q0, .int .i64 r1, .int .i64 q2], .slice Ap ps.length cp] w (RetB w true) := by
  have HT := Lib.hid ht
  have HL := Lib.hid hl
  have HPS := Lib.hid hps
  have hpl := hps.2
  have HQW := Lib.hid (show IntKind.i64.wrap (r1.tdiv 5) = r1.tdiv 5 from IntWalk.i64_in _ (tdiv_bd r1 5 (by omega) hr1))
  obtain ⟨kb1, kb2⟩ := next_bd (r1.tdiv 5) 3 (by omega)
  have HKW := Lib.hid (show IntKind.i64.wrap ((r1.tdiv 5).tmod 3 + 3) = (r1.tdiv 5).tmod 3 + 3 from IntWalk.i64_in _ (by omega))
  obtain ⟨kI, hkI⟩ : ∃ kI : Nat, ((r1.tdiv 5).tmod 3 + 3) % 3 = (kI : Int) := ⟨(((r1.tdiv 5).tmod 3 + 3) % 3).toNat, by omega⟩
  have hk3 : kI < 3 := by omega
  have HKE := Lib.hid (show ((r1.tdiv 5).tmod 3 + 3).tmod 3 = (kI : Int) by rw [Int.tmod_eq_emod_of_nonneg (by omega)]; exact hkI)
  obtain ⟨kd, hkd⟩ : ∃ kd : Int, kd = (kI : Int) + 1 := ⟨_, rfl⟩
  have HKD := Lib.hid (show (#[.int .i64 1, .int .i64 2, .int .i64 3] : Array Value)[kI]? = some (.int .i64 kd) by
    rw [hkd]
    match kI, hk3 with
    | 0, _ => rfl
    | 1, _ => rfl
    | 2, _ => rfl
    | n + 3, h => omega)
  obtain ⟨m5, hm5⟩ : ∃ m5 : Nat, (r1.tmod 5 + 5).tmod 5 = (m5 : Int) := ⟨((r1.tmod 5 + 5).tmod 5).toNat, by have := (next_r r1 5 (by omega)).1; omega⟩
  have HM5 := Lib.hid hm5
  obtain ⟨xv, hxv⟩ : ∃ xv, xv = cellS kd m5 := ⟨_, rfl⟩
  have HXV := Lib.hid hxv
  have hfl : flatV xv := by rw [hxv]; exact cellS_flat _ _
  have HFL := Lib.hid hfl
  obtain ⟨W0, hW0⟩ : ∃ W0, W0 = w.alloc (.cells #[.int .i64 q0, .int .i64 r1, .int .i64 q2] 23) := ⟨_, rfl⟩
  have HW0 := Lib.hid hW0
  have HX0 := Lib.hid (show Ext w W0 by rw [hW0]; exact (Ext.refl w).alloc _)
  have HGQ0 := Lib.hid (show Blk W0 w.heap.size 23 #[.int .i64 q0, .int .i64 r1, .int .i64 q2] by rw [hW0]; exact Blk.new _ _ _)
  clear ht hl hps hW0 hxv hm5 hkI kb1 kb2 hkd hfl hr1
  go_enter Tryz.func6, Tryz.ntmps6
  go_wp2_with fail
  rw [← HW0.out]
  refine (law_sanity W0 (HT.out.ext HX0.out)).mono ?_
  rintro e1 w1 ⟨rfl, hx1⟩
  have HX1 := Lib.hid (HX0.out.trans hx1)
  have HGQ1 := Lib.hid (HGQ0.out.keep (hx1.kept _))
  clear hx1 HGQ0 HX0 HW0
  go_wp2_with fail
  refine (r09_Made ⟨#[116]⟩ l A c _ S (HL.out.keep (HX1.out.kept _)) (by decide)).mono ?_
  rintro e2 w2 ⟨t, hmt, At, ct, Bt, et, rfl, ⟨hct, het⟩, hrl, hx2⟩
  have HMT := Lib.hid hmt
  have HCT := Lib.hid hct
  have HET := Lib.hid het
  have HX2 := Lib.hid (HX1.out.trans hx2)
  have HRL0 := Lib.hid (hrl.up (d' := 2) (by omega))
  have HGQ2 := Lib.hid (HGQ1.out.keep (hx2.kept _))
  clear hmt hct het hrl hx2 HGQ1 HX1
  obtain ⟨w3, hw3⟩ : ∃ w3, w3 = w2.alloc (.cells #[.string t.name, .slice At t.cols.length ct, .slice Bt t.rows.length et] 28) := ⟨_, rfl⟩
  have hx23 : Ext w2 w3 := by rw [hw3]; exact (Ext.refl _).alloc _
  have HX3 := Lib.hid (HX2.out.trans hx23)
  have HGT3 := Lib.hid (show Blk w3 w2.heap.size 28 #[.string t.name, .slice At t.cols.length ct, .slice Bt t.rows.length et] by rw [hw3]; exact Blk.new _ _ _)
  have HRL3 := Lib.hid (HRL0.out.keep (hx23.kept _))
  have HGQ3 := Lib.hid (HGQ2.out.keep (hx23.kept _))
  have HW3 := Lib.hid hw3
  clear hw3 hx23 HX2 HGQ2 HRL0
  obtain ⟨gt, hgt⟩ : ∃ gt, gt = w2.heap.size := ⟨_, rfl⟩
  obtain ⟨gq, hgq⟩ : ∃ gq, gq = w.heap.size := ⟨_, rfl⟩
  have HGTE := Lib.hid hgt
  have HGQE := Lib.hid hgq
  rw [← hgt] at HGT3
  rw [← hgq] at HGQ3
  clear hgt hgq
  go_wp2
  rw [← HW3.out, ← HGTE.out, ← HGQE.out]
  clear HW3 HGTE HGQE
  go_loopw [10, 9] (fun i v wr => ∃ (k : Nat) (Al : Option Addr) (cl : Nat) (ss : List ByteArray), k ≤ ps.length ∧ k ≤ 5 ∧ i = .int .i64 k ∧ ss.length = k ∧ v = .slice Al k cl ∧ Ext w3 wr ∧ OwnSs wr w3.heap.size Al cl ss) (fun i _ _ => 5 - (intOf i).toNat)
  case atStart => exact ⟨0, none, 0, [], Nat.zero_le _, Nat.zero_le _, rfl, rfl, rfl, Ext.refl _, OwnSs.nil _ _⟩
  case round =>
    obtain ⟨k, Al, cl, ss, hk, hk5, rfl, hssl, rfl, hx4, hos⟩ := hrel
    have HX4 := Lib.hid hx4
    have HOS := Lib.hid hos
    have HSSL := Lib.hid hssl
    have hsz4 := hx4.size
    clear hx4 hos hssl
    by_cases hgo : k < ps.length ∧ k < 5
    · obtain ⟨hlt, hl5⟩ := hgo
      obtain ⟨bl, ol, hAp, hbl, hcl0⟩ := (HPS.out.keep ((HX3.out.trans HX4.out).kept _)).at_ hlt
      subst hAp
      have i0 : (0 : Int) ≤ (k : Int) := by omega
      have i1 : (k : Int) < (ps.length : Int) := by omega
      have i2 : (k : Int) < 5 := by omega
      obtain ⟨x, hx⟩ : ∃ x, x = ps[k] := ⟨_, rfl⟩
      rw [← hx] at hcl0
      clear hx
      go_wp2_with fail
      refine (law_names x wr).mono ?_
      rintro e5 w5 ⟨rfl, hx5⟩
      have HX5 := Lib.hid hx5
      have hsz5 := hx5.size
      have hoi := (HOS.out.ext hx5).ext ((Ext.refl w5).alloc (.cells #[.string (nameS x)] 9))
      have HO2 := Lib.hid hoi.2
      have hoi1 := hoi.1
      rw [HSSL.out] at hoi1
      have HOI := Lib.hid hoi1
      clear hoi hoi1 hx5
      go_wp2_with (at_builtin; go_must (refine wpList_app rfl (.tmp 35) (.tmp 41) rfl tiS rfl HOI.out rfl (Blk.rd (Blk.new _ _ _)) rfl (by simp [Value.oneCell']) (by omega) (by decide) (by simp; omega) ?_); intro A4 c4 w4 hown4 hg4 hat4)
      go_roundw
      case rel =>
        refine ⟨k + 1, A4, c4, ss ++ [nameS x], by omega, by omega, by go_num, by rw [List.length_append, HSSL.out]; rfl, rfl, ((HX4.out.trans HX5.out).alloc _).grown hg4 (fun b hb => (HOI.out.blk hb).1), ⟨?_, fun s hs => ?_⟩⟩
        · rw [List.length_append, HSSL.out, List.map_append]; exact hown4
        · rcases List.mem_append.1 hs with hs | hs
          · exact HO2.out s hs
          · simp at hs; rw [hs]; have := nameS_size x; omega
      case measure => simp [intOf]; omega
    · obtain ⟨w4, rfl⟩ : ∃ w4 : World, w4 = wr := ⟨_, rfl⟩
      have HSS := Lib.hid (show Strs w4 (fun _ => True) Al ss from HOS.out.strs (by rw [HSSL.out]; omega) fun _ _ => trivial)
      have HCL := Lib.hid (show ss.length ≤ cl from HOS.out.1.cap)
      have HGT4 := Lib.hid (HGT3.out.keep (HX4.out.kept _))
      have HGQ4 := Lib.hid (HGQ3.out.keep (HX4.out.kept _))
      have HRL4 := Lib.hid (HRL3.out.keep (HX4.out.kept _))
      have HXW4 := Lib.hid (HX3.out.trans HX4.out)
      clear HOS HGT3 HGQ3 HRL3 HX3 HX4
      have hdec : ((k : Int) < (ps.length : Int) ∧ ¬ (k : Int) < 5) ∨ ¬ (k : Int) < (ps.length : Int) := by omega
      rcases hdec with ⟨hi5, hn5⟩ | hi5
      all_goals
        go_upto_region 8 with fail
        refine wp_region_lin_lit (by kernel_rfl) (fun | 13 => [12, 13] | i => [i]) (by kernel_rfl) LR LR.refl LR.trans (LN (al1 13 12)) (gS8 gq r1 kI kd xv) (gS8_st _ _ _ _ _) gh0 (LN.zero _) ⟨?_, ?_, ?_, ?_, ?_, ?_, ?_, ?_, ?_, ?_, ?_, ?_, ?_, ?_, trivial⟩ ?_
        · refine LinStep.yes fun vals γ w' ρ hR hN hp hρ hc hf hg => ⟨rfl, ?_⟩
          have hx := hR.drew_ext
          have HR := Lib.hid hR
          have HN := Lib.hid hN
          clear hR hN hp hρ hx
          go_light
          go_simp
          exact ⟨γ, LR.of_ext γ ((Ext.refl _).alloc _), fun _ _ _ h => h, _, rfl, Blk.new _ _ _, fun ⟨k', hk'⟩ => by have := HR.out.inb0 k' _ hk'; omega⟩
        · refine LinStep.yes fun vals γ w' ρ hR hN hp hρ hc hf hg => ⟨rfl, ?_⟩
          have e4 : ρ (.tmp 4) = .pointer (some ⟨gq, 0, none⟩) := hρ 4
          have hx := hR.drew_ext
          have HR := Lib.hid hR
          have HN := Lib.hid hN
          clear hR hN hp hρ hx
          go_light
          go_simp
          exact ⟨γ, LR.refl _ _, fun _ _ _ h => h, rfl⟩
        · refine LinStep.yes fun vals γ w' ρ hR hN hp hρ hc hf hg => ⟨rfl, ?_⟩
          have e44 : ρ (.tmp 44) = .pointer (some ⟨gq, 1, none⟩) := (hρ 44).trans (hp 1 (by decide))
          have hx := hR.drew_ext
          have c1 := (HGQ4.out.keep (hx.kept _)).cell (i := 1) rfl
          have HR := Lib.hid hR
          have HN := Lib.hid hN
          clear hR hN hp hρ hx
          go_light
          go_simp
          exact ⟨γ, LR.refl _ _, fun _ _ _ h => h, rfl⟩
        · refine LinStep.yes fun vals γ w' ρ hR hN hp hρ hc hf hg => ⟨rfl, ?_⟩
          have e45 : ρ (.tmp 45) = .int .i64 r1 := (hρ 45).trans (hp 2 (by decide))
          have hx := hR.drew_ext
          have i1 := HQW.out
          have HR := Lib.hid hR
          have HN := Lib.hid hN
          clear hR hN hp hρ hx
          go_light
          go_simp
          exact ⟨γ, LR.refl _ _, fun _ _ _ h => h, rfl⟩
        · refine LinStep.yes fun vals γ w' ρ hR hN hp hρ hc hf hg => ⟨rfl, ?_⟩
          have e46 : ρ (.tmp 46) = .int .i64 (r1.tdiv 5) := (hρ 46).trans (hp 3 (by decide))
          have hx := hR.drew_ext
          have HR := Lib.hid hR
          have HN := Lib.hid hN
          clear hR hN hp hρ hx
          go_light
          go_simp
          exact ⟨γ, LR.refl _ _, fun _ _ _ h => h, rfl⟩
        · refine LinStep.yes fun vals γ w' ρ hR hN hp hρ hc hf hg => ⟨rfl, ?_⟩
          have e47 : ρ (.tmp 47) = .int .i64 ((r1.tdiv 5).tmod 3) := (hρ 47).trans (hp 4 (by decide))
          have hx := hR.drew_ext
          have i1 := HKW.out
          have HR := Lib.hid hR
          have HN := Lib.hid hN
          clear hR hN hp hρ hx
          go_light
          go_simp
          exact ⟨γ, LR.refl _ _, fun _ _ _ h => h, rfl⟩
        · refine LinStep.yes fun vals γ w' ρ hR hN hp hρ hc hf hg => ⟨rfl, ?_⟩
          have e48 : ρ (.tmp 48) = .int .i64 ((r1.tdiv 5).tmod 3 + 3) := (hρ 48).trans (hp 5 (by decide))
          have hx := hR.drew_ext
          have i1 := HKE.out
          have HR := Lib.hid hR
          have HN := Lib.hid hN
          clear hR hN hp hρ hx
          go_light
          go_simp
          exact ⟨γ, LR.refl _ _, fun _ _ _ h => h, rfl⟩
        · refine LinStep.yes fun vals γ w' ρ hR hN hp hρ hc hf hg => ⟨rfl, ?_⟩
          obtain ⟨gb, hgb, hbk, hfb⟩ := hp 0 (by decide)
          have e43 : ρ (.tmp 43) = _ := (hρ 43).trans hgb
          have HBK := Lib.hid hbk
          have HFB := Lib.hid hfb
          clear hgb hbk hfb
          have e49 : ρ (.tmp 49) = .int .i64 (kI : Int) := (hρ 49).trans (hp 6 (by decide))
          have hx := hR.drew_ext
          have i0 : (0 : Int) ≤ (kI : Int) := by omega
          have i1 : (kI : Int) < 3 := by omega
          have HR := Lib.hid hR
          have HN := Lib.hid hN
          clear hR hN hp hρ hx
          go_light
          go_simp
          exact ⟨γ, LR.refl _ _, fun _ _ _ h => h, gb, rfl, HBK.out, HFB.out⟩
        · refine LinStep.yes fun vals γ w' ρ hR hN hp hρ hc hf hg => ⟨rfl, ?_⟩
          obtain ⟨gb, hgb, hbk, hfb⟩ := hp 7 (by decide)
          have e50 : ρ (.tmp 50) = _ := (hρ 50).trans hgb
          have HBK := Lib.hid hbk
          have HFB := Lib.hid hfb
          clear hgb hbk hfb
          have hx := hR.drew_ext
          have k1 := HBK.out.cell HKD.out
          have HR := Lib.hid hR
          have HN := Lib.hid hN
          clear hR hN hp hρ hx
          go_light
          go_simp
          exact ⟨γ, LR.refl _ _, fun _ _ _ h => h, rfl⟩
        · refine LinStep.yes fun vals γ w' ρ hR hN hp hρ hc hf hg => ⟨rfl, ?_⟩
          have e4 : ρ (.tmp 4) = .pointer (some ⟨gq, 0, none⟩) := hρ 4
          have hx := hR.drew_ext
          have HR := Lib.hid hR
          have HN := Lib.hid hN
          clear hR hN hp hρ hx
          go_light
          go_simp
          exact ⟨γ, LR.refl _ _, fun _ _ _ h => h, rfl⟩
        · refine LinStep.yes fun vals γ w' ρ hR hN hp hρ hc hf hg => ⟨rfl, ?_⟩
          have e52 : ρ (.tmp 52) = .pointer (some ⟨gq, 1, none⟩) := (hρ 52).trans (hp 9 (by decide))
          have hx := hR.drew_ext
          have c1 := (HGQ4.out.keep (hx.kept _)).cell (i := 1) rfl
          have HR := Lib.hid hR
          have HN := Lib.hid hN
          clear hR hN hp hρ hx
          go_light
          go_simp
          exact ⟨γ, LR.refl _ _, fun _ _ _ h => h, rfl⟩
        · refine LinStep.yes fun vals γ w' ρ hR hN hp hρ hc hf hg => ⟨rfl, ?_⟩
          have e51 : ρ (.tmp 51) = .int .i64 kd := (hρ 51).trans (hp 8 (by decide))
          have e53 : ρ (.tmp 53) = .int .i64 r1 := (hρ 53).trans (hp 10 (by decide))
          have hx := hR.drew_ext
          have HR := Lib.hid hR
          have HN := Lib.hid hN
          clear hR hN hp hρ hx
          go_light
          go_simp
          refine (r09_Cell kd r1 w' m5 HM5.out).mono ?_
          rintro e' w3 ⟨he, hx⟩
          rw [← HXV.out] at he
          exact ⟨_, he, γ, LR.of_ext γ hx, fun _ _ _ h => h, rfl⟩
        · refine LinStep.yes fun vals γ w' ρ hR hN hp hρ hc hf hg => ⟨rfl, ?_⟩
          have hx := hR.drew_ext
          have HR := Lib.hid hR
          have HN := Lib.hid hN
          clear hR hN hp hρ hx
          go_light
          go_simp
          exact ⟨γ.put 12 (some w'.heap.size), LR.new (HN.out.2 ⟨13, rfl⟩) _ _, LN.made, VarAt.new HR.out.inb0 rfl⟩
        · refine LinStep.yes fun vals γ w' ρ hR hN hp hρ hc hf hg => ⟨rfl, ?_⟩
          have e54 : ρ (.tmp 54) = (.agg #[.int .i64 xv.kind, .string xv.s, .int .i64 xv.dn, .int .i64 xv.ds, .int .i64 xv.n, .slice none xv.cols.length 0, .slice none xv.rows.length 0]) := (hρ 54).trans (hp 11 (by decide))
          obtain ⟨g, hv, hcs, hk, hst⟩ := VarAt.store7 (hp 12 (by decide)) (s := 13) (al := al1 13 12) rfl hN
          have e11 : ρ (.tmp 11) = _ := (hρ 11).trans hv
          obtain ⟨⟨x0, x1, x2, x3, x4, x5, x6, k0, k1, k2, k3, k4, k5, k6⟩, kf, kz⟩ := blk7 hcs
          have HST := Lib.hid hst
          have HK := Lib.hid hk
          clear hv hst hcs hk
          have hx := hR.drew_ext
          have HR := Lib.hid hR
          have HN := Lib.hid hN
          clear hR hN hp hρ hx
          go_light
          go_simp
          exact ⟨γ.put 12 none, (HST.out _ _ _ _ _ _ _).1, LN.stored al1_inj rfl HK.out, (HST.out _ _ _ _ _ _ _).2⟩
        · intro vals γ w6 hR hG
          obtain ⟨gv, hv, hb, -⟩ := hG 13 (by decide)
          have hx6 := hR.drew_ext
          have HX6 := Lib.hid (HXW4.out.trans hx6)
          have HGV6 := Lib.hid hb
          have HGT6 := Lib.hid (HGT4.out.keep (hx6.kept _))
          have HGQ6 := Lib.hid (HGQ4.out.keep (hx6.kept _))
          have HRL6 := Lib.hid (HRL4.out.keep (hx6.kept _))
          have HSS6 := Lib.hid (HSS.out.keep (hx6.kept _))
          have HOK := Lib.hid (made_ok HMT.out)
          clear hR hG hb hx6 HGT4 HGQ4 HRL4 HXW4 HSS
          simp only [lexFrame, Act.put, List.setIfInBounds_toArray, List.set_cons_succ, List.set_cons_zero, Nat.zero_add, Nat.reduceAdd, hv]
          generalize vals 0 = u0, vals 1 = u1, vals 2 = u2, vals 3 = u3, vals 4 = u4, vals 5 = u5, vals 6 = u6, vals 7 = u7, vals 8 = u8, vals 9 = u9, vals 10 = u10, vals 11 = u11, vals 13 = u13
          clear hv
          have HGV := HGV6
          have HGT := HGT6
          have HGQ := HGQ6
          have HRL := HRL6
          obtain ⟨tv, htv⟩ : ∃ tv, tv = tabV t.cols t.rows := ⟨_, rfl⟩
          have HTV := Lib.hid htv
          clear htv
          obtain ⟨q1, hq1⟩ : ∃ q1, q1 = r1 := ⟨_, rfl⟩
          subst hq1
          go_upto_region 9 with fail
          refine wp_region_lin_lit (by kernel_rfl) (fun i => [i]) (by kernel_rfl) LR LR.refl LR.trans (LN (al0)) (gS9 gt gq gv t tv At ct Bt et q0 q1 q2 xv) (gS9_st _ _ _ _ _ _ _ _ _ _ _ _ _) gh0 (LN.zero _) ⟨?_, ?_, ?_, ?_, ?_, ?_, ?_, ?_, ?_, ?_, trivial⟩ ?_
          · refine LinStep.yes fun vals γ w' ρ hR hN hp hρ hc hf hg => ⟨rfl, ?_⟩
            have e8 : ρ (.tmp 8) = .pointer (some ⟨gt, 0, none⟩) := hρ 8
            have hx := hR.drew_ext
            have c0 := (HGT.out.keep (hx.kept _)).cell (i := 0) rfl
            have c1 := (HGT.out.keep (hx.kept _)).cell (i := 1) rfl
            have c2 := (HGT.out.keep (hx.kept _)).cell (i := 2) rfl
            have HR := Lib.hid hR
            have HN := Lib.hid hN
            clear hR hN hp hρ hx
            go_light
            go_simp
            exact ⟨γ, LR.refl _ _, fun _ _ _ h => h, rfl⟩
          · refine LinStep.yes fun vals γ w' ρ hR hN hp hρ hc hf hg => ⟨rfl, ?_⟩
            have e55 : ρ (.tmp 55) = (.agg #[.string t.name, .slice At t.cols.length ct, .slice Bt t.rows.length et]) := (hρ 55).trans (hp 0 (by decide))
            have hx := hR.drew_ext
            have HR := Lib.hid hR
            have HN := Lib.hid hN
            clear hR hN hp hρ hx
            go_light
            go_simp
            refine (r09_Value t tv HTV.out At Bt ct et w').mono ?_
            rintro e' w3 ⟨he, hx⟩
            exact ⟨_, he, γ, LR.of_ext γ hx, fun _ _ _ h => h, rfl⟩
          · refine LinStep.yes fun vals γ w' ρ hR hN hp hρ hc hf hg => ⟨rfl, ?_⟩
            have e8 : ρ (.tmp 8) = .pointer (some ⟨gt, 0, none⟩) := hρ 8
            have hx := hR.drew_ext
            have c0 := (HGT.out.keep (hx.kept _)).cell (i := 0) rfl
            have c1 := (HGT.out.keep (hx.kept _)).cell (i := 1) rfl
            have c2 := (HGT.out.keep (hx.kept _)).cell (i := 2) rfl
            have HR := Lib.hid hR
            have HN := Lib.hid hN
            clear hR hN hp hρ hx
            go_light
            go_simp
            exact ⟨γ, LR.refl _ _, fun _ _ _ h => h, rfl⟩
          · refine LinStep.yes fun vals γ w' ρ hR hN hp hρ hc hf hg => ⟨rfl, ?_⟩
            have e4 : ρ (.tmp 4) = .pointer (some ⟨gq, 0, none⟩) := hρ 4
            have hx := hR.drew_ext
            have c0 := (HGQ.out.keep (hx.kept _)).cell (i := 0) rfl
            have c1 := (HGQ.out.keep (hx.kept _)).cell (i := 1) rfl
            have c2 := (HGQ.out.keep (hx.kept _)).cell (i := 2) rfl
            have HR := Lib.hid hR
            have HN := Lib.hid hN
            clear hR hN hp hρ hx
            go_light
            go_simp
            exact ⟨γ, LR.refl _ _, fun _ _ _ h => h, rfl⟩
          · refine LinStep.yes fun vals γ w' ρ hR hN hp hρ hc hf hg => ⟨rfl, ?_⟩
            have e57 : ρ (.tmp 57) = (.agg #[.string t.name, .slice At t.cols.length ct, .slice Bt t.rows.length et]) := (hρ 57).trans (hp 2 (by decide))
            have e58 : ρ (.tmp 58) = .agg #[.int .i64 q0, .int .i64 q1, .int .i64 q2] := (hρ 58).trans (hp 3 (by decide))
            have hx := hR.drew_ext
            have HR := Lib.hid hR
            have HN := Lib.hid hN
            clear hR hN hp hρ hx
            go_light
            go_simp
            refine (r09_Odd t At Bt ct et q0 q1 q2 w' _ (HRL.out.keep (HR.out.drew_ext.kept _)) HOK.out).mono ?_
            rintro e' w3 ⟨t', A', c', B', e1, he, hcp, hrl, hx⟩
            exact ⟨_, he, γ, LR.of_ext γ hx, fun _ _ _ h => h, t', A', c', B', e1, rfl, hcp, hrl.mono fun b _ hb => fun ⟨k', hk'⟩ => by have := HR.out.inb0 k' _ hk'; unfold Fresh at hb; omega⟩
          · refine LinStep.yes fun vals γ w' ρ hR hN hp hρ hc hf hg => ⟨rfl, ?_⟩
            obtain ⟨t', A', c', B', e', g3, hcp, hrl⟩ := hp 4 (by decide)
            have e59 : ρ (.tmp 59) = _ := (hρ 59).trans g3
            have HRL' := Lib.hid hrl
            clear g3 hrl
            have hx := hR.drew_ext
            have HR := Lib.hid hR
            have HN := Lib.hid hN
            clear hR hN hp hρ hx
            go_light
            go_simp
            refine (r09_Value t' _ rfl A' B' c' e' w').mono ?_
            rintro e9 w3 ⟨he, hx⟩
            have hlr := LR.of_ext γ hx
            exact ⟨_, he, γ, hlr, fun _ _ _ h => h, tabV t'.cols t'.rows, A', c', B', e', rfl, hcp, hlr.rv HRL'.out.val⟩
          · refine LinStep.yes fun vals γ w' ρ hR hN hp hρ hc hf hg => ⟨rfl, ?_⟩
            have e11 : ρ (.tmp 11) = .pointer (some ⟨gv, 0, none⟩) := hρ 11
            have hx := hR.drew_ext
            have c0 := (HGV.out.keep (hx.kept _)).cell (i := 0) rfl
            have c1 := (HGV.out.keep (hx.kept _)).cell (i := 1) rfl
            have c2 := (HGV.out.keep (hx.kept _)).cell (i := 2) rfl
            have c3 := (HGV.out.keep (hx.kept _)).cell (i := 3) rfl
            have c4 := (HGV.out.keep (hx.kept _)).cell (i := 4) rfl
            have c5 := (HGV.out.keep (hx.kept _)).cell (i := 5) rfl
            have c6 := (HGV.out.keep (hx.kept _)).cell (i := 6) rfl
            have HR := Lib.hid hR
            have HN := Lib.hid hN
            clear hR hN hp hρ hx
            go_light
            go_simp
            exact ⟨γ, LR.refl _ _, fun _ _ _ h => h, rfl⟩
          · refine LinStep.yes fun vals γ w' ρ hR hN hp hρ hc hf hg => ⟨rfl, ?_⟩
            have e56 : ρ (.tmp 56) = (.agg #[.int .i64 tv.kind, .string tv.s, .int .i64 tv.dn, .int .i64 tv.ds, .int .i64 tv.n, .slice At tv.cols.length ct, .slice Bt tv.rows.length et]) := (hρ 56).trans (hp 1 (by decide))
            have e61 : ρ (.tmp 61) = (.agg #[.int .i64 xv.kind, .string xv.s, .int .i64 xv.dn, .int .i64 xv.ds, .int .i64 xv.n, .slice none xv.cols.length 0, .slice none xv.rows.length 0]) := (hρ 61).trans (hp 6 (by decide))
            obtain ⟨x', A', c', B', e', g3, hcp, hrl⟩ := hp 5 (by decide)
            have e60 : ρ (.tmp 60) = _ := (hρ 60).trans g3
            have HRL' := Lib.hid hrl
            clear g3 hrl
            have hx := hR.drew_ext
            have HR := Lib.hid hR
            have HN := Lib.hid hN
            clear hR hN hp hρ hx
            go_light
            go_simp
            have hlr := LR.of_ext γ ((Ext.refl w').alloc (.cells #[.int .i64 tv.kind, .string tv.s, .int .i64 tv.dn, .int .i64 tv.ds, .int .i64 tv.n, .slice At tv.cols.length ct, .slice Bt tv.rows.length et, .int .i64 x'.kind, .string x'.s, .int .i64 x'.dn, .int .i64 x'.ds, .int .i64 x'.n, .slice A' x'.cols.length c', .slice B' x'.rows.length e', .int .i64 xv.kind, .string xv.s, .int .i64 xv.dn, .int .i64 xv.ds, .int .i64 xv.n, .slice none xv.cols.length 0, .slice none xv.rows.length 0] 33))
            exact ⟨γ, hlr, fun _ _ _ h => h, _, x', A', c', B', e', rfl, ⟨Blk.new _ _ _, fun ⟨k', hk'⟩ => by have := HR.out.inb0 k' _ hk'; omega⟩, hcp, hlr.rv HRL'.out⟩
          · refine LinStep.yes fun vals γ w' ρ hR hN hp hρ hc hf hg => ⟨rfl, ?_⟩
            obtain ⟨g, x', A', c', B', e', g4, -⟩ := hp 7 (by decide)
            have e62 : ρ (.tmp 62) = _ := (hρ 62).trans g4
            clear g4
            have hx := hR.drew_ext
            have HR := Lib.hid hR
            have HN := Lib.hid hN
            clear hR hN hp hρ hx
            go_light
            go_simp
            exact ⟨γ, LR.refl _ _, fun _ _ _ h => h, rfl⟩
          · refine LinStep.yes fun vals γ w' ρ hR hN hp hρ hc hf hg => ⟨rfl, ?_⟩
            have hx := hR.drew_ext
            have HR := Lib.hid hR
            have HN := Lib.hid hN
            clear hR hN hp hρ hx
            go_light
            go_simp
            exact ⟨γ, LR.refl _ _, fun _ _ _ h => h, rfl⟩
          · intro vals γ w7 hR hG
            obtain ⟨g, x', A', c', B', e', hv7, ⟨hbk, -⟩, hcp, hrv'⟩ := hG 7 (by decide)
            have h8 : vals 8 = .int .i64 3 := hG 8 (by decide)
            have h9 : vals 9 = .int .i64 0 := hG 9 (by decide)
            have hx7 := hR.drew_ext
            have HX7 := Lib.hid (HX6.out.trans hx7)
            have HGV7 := Lib.hid (HGV6.out.keep (hx7.kept _))
            have HGQ7 := Lib.hid (HGQ6.out.keep (hx7.kept _))
            have HSS7 := Lib.hid (HSS6.out.keep (hx7.kept _))
            have HXX := Lib.hid (show ∀ k, k < 3 → ∃ (x : Val) (A : Option Addr) (c : Nat) (B : Option Addr) (e : Nat), (w7.cell? ⟨g, k * 7, none⟩ = some (.int .i64 x.kind) ∧ w7.cell? ⟨g, k * 7 + 1, none⟩ = some (.string x.s) ∧ w7.cell? ⟨g, k * 7 + 2, none⟩ = some (.int .i64 x.dn) ∧ w7.cell? ⟨g, k * 7 + 3, none⟩ = some (.int .i64 x.ds) ∧ w7.cell? ⟨g, k * 7 + 4, none⟩ = some (.int .i64 x.n) ∧ w7.cell? ⟨g, k * 7 + 5, none⟩ = some (.slice A x.cols.length c) ∧ w7.cell? ⟨g, k * 7 + 6, none⟩ = some (.slice B x.rows.length e)) ∧ x.cols.length ≤ c ∧ RV w7 (fun _ => True) 2 x A B by
              intro k hk
              match k, hk with
              | 0, _ => exact ⟨tv, At, ct, Bt, et, ⟨hbk.cell rfl, hbk.cell rfl, hbk.cell rfl, hbk.cell rfl, hbk.cell rfl, hbk.cell rfl, hbk.cell rfl⟩, by rw [HTV.out]; exact HCT.out, by rw [HTV.out]; exact ((HRL6.out.keep (hx7.kept _)).mono fun _ _ _ => trivial).val⟩
              | 1, _ => exact ⟨x', A', c', B', e', ⟨hbk.cell rfl, hbk.cell rfl, hbk.cell rfl, hbk.cell rfl, hbk.cell rfl, hbk.cell rfl, hbk.cell rfl⟩, hcp.1, hrv'.mono fun _ _ _ => trivial⟩
              | 2, _ => exact ⟨xv, none, 0, none, 0, ⟨hbk.cell rfl, hbk.cell rfl, hbk.cell rfl, hbk.cell rfl, hbk.cell rfl, hbk.cell rfl, hbk.cell rfl⟩, by rw [HFL.out.1]; exact Nat.le_refl _, RV.flat HFL.out⟩
              | n + 3, h => omega)
            have HGZ := Lib.hid hbk.lt
            clear hR hG hbk hrv' hx7 hcp HGV6 HGQ6 HRL6 HGT6 HSS6 HGV HGT HGQ HRL HX6 HOK
            simp only [lexFrame, Act.put, List.setIfInBounds_toArray, List.set_cons_succ, List.set_cons_zero, Nat.zero_add, Nat.reduceAdd, hv7, h8, h9]
            generalize vals 0 = u20, vals 1 = u21, vals 2 = u22, vals 3 = u23, vals 4 = u24, vals 5 = u25, vals 6 = u26
            clear hv7 h8 h9
            go_wp2
            go_loopw [64] (fun i wr => ∃ (k : Nat), k ≤ 3 ∧ i = .int .i64 k ∧ Ext w7 wr) (fun i _ => 3 - (intOf i).toNat)
            case atStart => exact ⟨0, Nat.zero_le _, rfl, Ext.refl _⟩
            case round =>
              obtain ⟨k, hk, rfl, hext⟩ := hrel
              have HE := Lib.hid hext
              clear hext
              by_cases hlt : k < 3
              · obtain ⟨x, A, c, B, e, ⟨y0, y1, y2, y3, y4, y5, y6⟩, hcx, hrx⟩ := HXX.out k hlt
                have z0 := HE.out.cell y0
                have z1 := HE.out.cell y1
                have z2 := HE.out.cell y2
                have z3 := HE.out.cell y3
                have z4 := HE.out.cell y4
                have z5 := HE.out.cell y5
                have z6 := HE.out.cell y6
                have zz : g < wr.heap.size := Nat.lt_of_lt_of_le HGZ.out HE.out.size
                have i0 : (0 : Int) ≤ (k : Int) := by omega
                have i1 : (k : Int) < 3 := by omega
                have HCX := Lib.hid hcx
                clear y0 y1 y2 y3 y4 y5 y6 hcx
                go_upto_region 12 with fail
                obtain ⟨wx, hwx⟩ : ∃ wx, wx = wr.alloc (.cells #[.int .i64 x.kind, .string x.s, .int .i64 x.dn, .int .i64 x.ds, .int .i64 x.n, .slice A x.cols.length c, .slice B x.rows.length e] 33) := ⟨_, rfl⟩
                obtain ⟨gx, hgx⟩ : ∃ gx, gx = wr.heap.size := ⟨_, rfl⟩
                have hxa : Ext w7 wx := by rw [hwx]; exact HE.out.alloc _
                have HXA := Lib.hid hxa
                have HGX := Lib.hid (show Blk wx gx 33 #[.int .i64 x.kind, .string x.s, .int .i64 x.dn, .int .i64 x.ds, .int .i64 x.n, .slice A x.cols.length c, .slice B x.rows.length e] by rw [hwx, hgx]; exact Blk.new _ _ _)
                have HRX := Lib.hid (hrx.keep (hxa.kept _))
                have HGV := Lib.hid (HGV7.out.keep (hxa.kept _))
                have HGQ := Lib.hid (HGQ7.out.keep (hxa.kept _))
                have HSX := Lib.hid (HSS7.out.keep (hxa.kept _))
                rw [← hwx, ← hgx]
                obtain ⟨rs, cd, hfs⟩ : ∃ rs cd, whereS x (nameS q2) xv = (rs, cd) := ⟨_, _, rfl⟩
                have HFS := Lib.hid hfs
                obtain ⟨ps', cp', hpks⟩ : ∃ ps' cp', pickS x ss = (ps', cp') := ⟨_, _, rfl⟩
                have HPKS := Lib.hid hpks
                have HRV := Lib.hid (show ∀ w' : World, RV w' (fun _ => True) 2 xv none none from fun _ => RV.flat HFL.out)
                clear hwx hgx hxa hrx hfs hpks z0 z1 z2 z3 z4 z5 z6 zz HE
                refine wp_region_lin_lit (by kernel_rfl) (fun | 10 => [9, 10] | i => [i]) (by kernel_rfl) LR LR.refl LR.trans (LN (al1 10 9)) (gS12 gq gv gx q2 xv x A c B e rs cd) (gS12_st _ _ _ _ _ _ _ _ _ _ _ _) gh0 (LN.zero _) ⟨?_, ?_, ?_, ?_, ?_, ?_, ?_, ?_, ?_, ?_, ?_, ?_, trivial⟩ ?_
                · refine LinStep.yes fun vals γ w' ρ hR hN hp hρ hc hf hg => ⟨rfl, ?_⟩
                  have e13 : ρ (.tmp 13) = .pointer (some ⟨gx, 0, none⟩) := hρ 13
                  have hx := hR.drew_ext
                  have c0 := (HGX.out.keep (hx.kept _)).cell (i := 0) rfl
                  have c1 := (HGX.out.keep (hx.kept _)).cell (i := 1) rfl
                  have c2 := (HGX.out.keep (hx.kept _)).cell (i := 2) rfl
                  have c3 := (HGX.out.keep (hx.kept _)).cell (i := 3) rfl
                  have c4 := (HGX.out.keep (hx.kept _)).cell (i := 4) rfl
                  have c5 := (HGX.out.keep (hx.kept _)).cell (i := 5) rfl
                  have c6 := (HGX.out.keep (hx.kept _)).cell (i := 6) rfl
                  have HR := Lib.hid hR
                  have HN := Lib.hid hN
                  clear hR hN hp hρ hx
                  go_light
                  go_simp
                  exact ⟨γ, LR.refl _ _, fun _ _ _ h => h, rfl⟩
                · refine LinStep.yes fun vals γ w' ρ hR hN hp hρ hc hf hg => ⟨rfl, ?_⟩
                  have e4 : ρ (.tmp 4) = .pointer (some ⟨gq, 0, none⟩) := hρ 4
                  have hx := hR.drew_ext
                  have HR := Lib.hid hR
                  have HN := Lib.hid hN
                  clear hR hN hp hρ hx
                  go_light
                  go_simp
                  exact ⟨γ, LR.refl _ _, fun _ _ _ h => h, rfl⟩
                · refine LinStep.yes fun vals γ w' ρ hR hN hp hρ hc hf hg => ⟨rfl, ?_⟩
                  have e70 : ρ (.tmp 70) = .pointer (some ⟨gq, 2, none⟩) := (hρ 70).trans (hp 1 (by decide))
                  have hx := hR.drew_ext
                  have c2 := (HGQ.out.keep (hx.kept _)).cell (i := 2) rfl
                  have HR := Lib.hid hR
                  have HN := Lib.hid hN
                  clear hR hN hp hρ hx
                  go_light
                  go_simp
                  exact ⟨γ, LR.refl _ _, fun _ _ _ h => h, rfl⟩
                · refine LinStep.yes fun vals γ w' ρ hR hN hp hρ hc hf hg => ⟨rfl, ?_⟩
                  have e71 : ρ (.tmp 71) = .int .i64 q2 := (hρ 71).trans (hp 2 (by decide))
                  have hx := hR.drew_ext
                  have HR := Lib.hid hR
                  have HN := Lib.hid hN
                  clear hR hN hp hρ hx
                  go_light
                  go_simp
                  refine (law_names q2 w').mono ?_
                  rintro e' w3 ⟨he, hx⟩
                  exact ⟨_, he, γ, LR.of_ext γ hx, fun _ _ _ h => h, rfl⟩
                · refine LinStep.yes fun vals γ w' ρ hR hN hp hρ hc hf hg => ⟨rfl, ?_⟩
                  have e11 : ρ (.tmp 11) = .pointer (some ⟨gv, 0, none⟩) := hρ 11
                  have hx := hR.drew_ext
                  have c0 := (HGV.out.keep (hx.kept _)).cell (i := 0) rfl
                  have c1 := (HGV.out.keep (hx.kept _)).cell (i := 1) rfl
                  have c2 := (HGV.out.keep (hx.kept _)).cell (i := 2) rfl
                  have c3 := (HGV.out.keep (hx.kept _)).cell (i := 3) rfl
                  have c4 := (HGV.out.keep (hx.kept _)).cell (i := 4) rfl
                  have c5 := (HGV.out.keep (hx.kept _)).cell (i := 5) rfl
                  have c6 := (HGV.out.keep (hx.kept _)).cell (i := 6) rfl
                  have HR := Lib.hid hR
                  have HN := Lib.hid hN
                  clear hR hN hp hρ hx
                  go_light
                  go_simp
                  exact ⟨γ, LR.refl _ _, fun _ _ _ h => h, rfl⟩
                · refine LinStep.yes fun vals γ w' ρ hR hN hp hρ hc hf hg => ⟨rfl, ?_⟩
                  have e69 : ρ (.tmp 69) = (.agg #[.int .i64 x.kind, .string x.s, .int .i64 x.dn, .int .i64 x.ds, .int .i64 x.n, .slice A x.cols.length c, .slice B x.rows.length e]) := (hρ 69).trans (hp 0 (by decide))
                  have e72 : ρ (.tmp 72) = .string (nameS q2) := (hρ 72).trans (hp 3 (by decide))
                  have e73 : ρ (.tmp 73) = (.agg #[.int .i64 xv.kind, .string xv.s, .int .i64 xv.dn, .int .i64 xv.ds, .int .i64 xv.n, .slice none xv.cols.length 0, .slice none xv.rows.length 0]) := (hρ 73).trans (hp 4 (by decide))
                  have hx := hR.drew_ext
                  have HR := Lib.hid hR
                  have HN := Lib.hid hN
                  clear hR hN hp hρ hx
                  go_light
                  go_simp
                  have hff := table_Where 2 x (nameS q2) xv A B none none c e 0 0 w' (fun _ => True) (fun _ => True) (HRX.out.keep (HR.out.drew_ext.kept _)) HCX.out (HRV.out _)
                  rw [HFS.out] at hff
                  refine hff.mono ?_
                  rintro e' w3 ⟨A1, c1, B1, e1, he, -, hrv, hx⟩
                  exact ⟨_, he, γ, LR.of_ext γ hx, fun _ _ _ h => h, A1, c1, B1, e1, rfl, hrv.mono fun b _ hb => fun ⟨k', hk'⟩ => by have := HR.out.inb0 k' _ hk'; unfold Fresh at hb; omega⟩
                · refine LinStep.yes fun vals γ w' ρ hR hN hp hρ hc hf hg => ⟨rfl, ?_⟩
                  obtain ⟨A', c', B', e', hv0, hrv0⟩ := hp 5 (by decide)
                  have e74 : ρ (.tmp 74) = _ := (hρ 74).trans hv0
                  have HRV0 := Lib.hid hrv0
                  clear hv0 hrv0
                  have hx := hR.drew_ext
                  have HR := Lib.hid hR
                  have HN := Lib.hid hN
                  clear hR hN hp hρ hx
                  go_light
                  go_simp
                  exact ⟨γ, LR.refl _ _, fun _ _ _ h => h, A', c', B', e', rfl, HRV0.out⟩
                · refine LinStep.yes fun vals γ w' ρ hR hN hp hρ hc hf hg => ⟨rfl, ?_⟩
                  obtain ⟨A', c', B', e', hv0, hrv0⟩ := hp 6 (by decide)
                  have e68 : ρ (.tmp 68) = _ := (hρ 68).trans hv0
                  have HRV0 := Lib.hid hrv0
                  clear hv0 hrv0
                  have hx := hR.drew_ext
                  have HR := Lib.hid hR
                  have HN := Lib.hid hN
                  clear hR hN hp hρ hx
                  go_light
                  go_simp
                  exact ⟨γ, LR.refl _ _, fun _ _ _ h => h, A', c', B', e', rfl, HRV0.out⟩
                · refine LinStep.yes fun vals γ w' ρ hR hN hp hρ hc hf hg => ⟨rfl, ?_⟩
                  obtain ⟨A', c', B', e', hv0, hrv0⟩ := hp 6 (by decide)
                  have e68 : ρ (.tmp 68) = _ := (hρ 68).trans hv0
                  have HRV0 := Lib.hid hrv0
                  clear hv0 hrv0
                  have hx := hR.drew_ext
                  have HR := Lib.hid hR
                  have HN := Lib.hid hN
                  clear hR hN hp hρ hx
                  go_light
                  go_simp
                  exact ⟨γ, LR.refl _ _, fun _ _ _ h => h, rfl⟩
                · refine LinStep.yes fun vals γ w' ρ hR hN hp hρ hc hf hg => ⟨rfl, ?_⟩
                  have hx := hR.drew_ext
                  have HR := Lib.hid hR
                  have HN := Lib.hid hN
                  clear hR hN hp hρ hx
                  go_light
                  go_simp
                  exact ⟨γ.put 9 (some w'.heap.size), LR.new (HN.out.2 ⟨10, rfl⟩) _ _, LN.made, VarAt.new HR.out.inb0 rfl⟩
                · refine LinStep.yes fun vals γ w' ρ hR hN hp hρ hc hf hg => ⟨rfl, ?_⟩
                  obtain ⟨A', c', B', e', hv0, hrv0⟩ := hp 7 (by decide)
                  have e75 : ρ (.tmp 75) = _ := (hρ 75).trans hv0
                  have HRV0 := Lib.hid hrv0
                  clear hv0 hrv0
                  obtain ⟨g, hv, hcs, hk, hst⟩ := VarAt.store7 (hp 9 (by decide)) (s := 10) (al := al1 10 9) rfl hN
                  have e14 : ρ (.tmp 14) = _ := (hρ 14).trans hv
                  obtain ⟨⟨x0, x1, x2, x3, x4, x5, x6, k0, k1, k2, k3, k4, k5, k6⟩, kf, kz⟩ := blk7 hcs
                  have HST := Lib.hid hst
                  have HK := Lib.hid hk
                  clear hv hst hcs hk
                  have hx := hR.drew_ext
                  have HR := Lib.hid hR
                  have HN := Lib.hid hN
                  clear hR hN hp hρ hx
                  go_light
                  go_simp
                  exact ⟨γ.put 9 none, (HST.out _ _ _ _ _ _ _).1, LN.stored al1_inj rfl HK.out, A', c', B', e', (HST.out _ _ _ _ _ _ _).2, (HST.out _ _ _ _ _ _ _).1.rv HRV0.out⟩
                · refine LinStep.yes fun vals γ w' ρ hR hN hp hρ hc hf hg => ⟨rfl, ?_⟩
                  have e76 : ρ (.tmp 76) = .int .i64 cd := (hρ 76).trans (hp 8 (by decide))
                  have hx := hR.drew_ext
                  have HR := Lib.hid hR
                  have HN := Lib.hid hN
                  clear hR hN hp hρ hx
                  go_light
                  go_simp
                  exact ⟨γ, LR.refl _ _, fun _ _ _ h => h, rfl⟩
                · intro vals γ w8 hR hG
                  obtain ⟨A1, c1, B1, e1, ⟨g1, hv1, hb1, -⟩, hrv1⟩ := hG 10 (by decide)
                  have h11 : vals 11 = .int .i64 cd := hG 11 (by decide)
                  have hx8 := hR.drew_ext
                  have HXB := Lib.hid (HXA.out.trans hx8)
                  have HG18 := Lib.hid hb1
                  have HR18 := Lib.hid (hrv1.mono (T := fun _ => True) fun _ _ _ => trivial)
                  clear hR hG hb1 hrv1
                  simp only [lexFrame, Act.put, List.setIfInBounds_toArray, List.set_cons_succ, List.set_cons_zero, Nat.zero_add, Nat.reduceAdd, hv1, h11]
                  generalize vals 0 = v0, vals 1 = v1, vals 2 = v2, vals 3 = v3, vals 4 = v4, vals 5 = v5, vals 6 = v6, vals 7 = v7, vals 8 = v8, vals 10 = v10
                  clear hv1 h11
                  obtain ⟨HGX0, HRX0, HGV0, HGQ0, HSX0⟩ : Hid _ ∧ Hid _ ∧ Hid _ ∧ Hid _ ∧ Hid _ := ⟨HGX, HRX, HGV, HGQ, HSX⟩
                  have HGX := Lib.hid (HGX0.out.keep (hx8.kept _))
                  have HGV := Lib.hid (HGV0.out.keep (hx8.kept _))
                  have HGQ := Lib.hid (HGQ0.out.keep (hx8.kept _))
                  have HRX := Lib.hid (HRX0.out.keep (hx8.kept _))
                  have HSX := Lib.hid (HSX0.out.keep (hx8.kept _))
                  clear hx8 HGX0 HRX0 HGV0 HGQ0 HSX0
                  go_upto_region 13 with fail
                  refine wp_region_lin_lit (by kernel_rfl) (fun | 10 => [9, 10] | i => [i]) (by kernel_rfl) LR LR.refl LR.trans (LN (al1 10 9)) (gS12 gq gv gx q2 xv x A c B e rs cd) (gS12_st _ _ _ _ _ _ _ _ _ _ _ _) gh0 (LN.zero _) ⟨?_, ?_, ?_, ?_, ?_, ?_, ?_, ?_, ?_, ?_, ?_, ?_, trivial⟩ ?_
                  · refine LinStep.yes fun vals γ w' ρ hR hN hp hρ hc hf hg => ⟨rfl, ?_⟩
                    have e13 : ρ (.tmp 13) = .pointer (some ⟨gx, 0, none⟩) := hρ 13
                    have hx := hR.drew_ext
                    have c0 := (HGX.out.keep (hx.kept _)).cell (i := 0) rfl
                    have c1 := (HGX.out.keep (hx.kept _)).cell (i := 1) rfl
                    have c2 := (HGX.out.keep (hx.kept _)).cell (i := 2) rfl
                    have c3 := (HGX.out.keep (hx.kept _)).cell (i := 3) rfl
                    have c4 := (HGX.out.keep (hx.kept _)).cell (i := 4) rfl
                    have c5 := (HGX.out.keep (hx.kept _)).cell (i := 5) rfl
                    have c6 := (HGX.out.keep (hx.kept _)).cell (i := 6) rfl
                    have HR := Lib.hid hR
                    have HN := Lib.hid hN
                    clear hR hN hp hρ hx
                    go_light
                    go_simp
                    exact ⟨γ, LR.refl _ _, fun _ _ _ h => h, rfl⟩
                  · refine LinStep.yes fun vals γ w' ρ hR hN hp hρ hc hf hg => ⟨rfl, ?_⟩
                    have e4 : ρ (.tmp 4) = .pointer (some ⟨gq, 0, none⟩) := hρ 4
                    have hx := hR.drew_ext
                    have HR := Lib.hid hR
                    have HN := Lib.hid hN
                    clear hR hN hp hρ hx
                    go_light
                    go_simp
                    exact ⟨γ, LR.refl _ _, fun _ _ _ h => h, rfl⟩
                  · refine LinStep.yes fun vals γ w' ρ hR hN hp hρ hc hf hg => ⟨rfl, ?_⟩
                    have e79 : ρ (.tmp 79) = .pointer (some ⟨gq, 2, none⟩) := (hρ 79).trans (hp 1 (by decide))
                    have hx := hR.drew_ext
                    have c2 := (HGQ.out.keep (hx.kept _)).cell (i := 2) rfl
                    have HR := Lib.hid hR
                    have HN := Lib.hid hN
                    clear hR hN hp hρ hx
                    go_light
                    go_simp
                    exact ⟨γ, LR.refl _ _, fun _ _ _ h => h, rfl⟩
                  · refine LinStep.yes fun vals γ w' ρ hR hN hp hρ hc hf hg => ⟨rfl, ?_⟩
                    have e80 : ρ (.tmp 80) = .int .i64 q2 := (hρ 80).trans (hp 2 (by decide))
                    have hx := hR.drew_ext
                    have HR := Lib.hid hR
                    have HN := Lib.hid hN
                    clear hR hN hp hρ hx
                    go_light
                    go_simp
                    refine (law_names q2 w').mono ?_
                    rintro e' w3 ⟨he, hx⟩
                    exact ⟨_, he, γ, LR.of_ext γ hx, fun _ _ _ h => h, rfl⟩
                  · refine LinStep.yes fun vals γ w' ρ hR hN hp hρ hc hf hg => ⟨rfl, ?_⟩
                    have e11 : ρ (.tmp 11) = .pointer (some ⟨gv, 0, none⟩) := hρ 11
                    have hx := hR.drew_ext
                    have c0 := (HGV.out.keep (hx.kept _)).cell (i := 0) rfl
                    have c1 := (HGV.out.keep (hx.kept _)).cell (i := 1) rfl
                    have c2 := (HGV.out.keep (hx.kept _)).cell (i := 2) rfl
                    have c3 := (HGV.out.keep (hx.kept _)).cell (i := 3) rfl
                    have c4 := (HGV.out.keep (hx.kept _)).cell (i := 4) rfl
                    have c5 := (HGV.out.keep (hx.kept _)).cell (i := 5) rfl
                    have c6 := (HGV.out.keep (hx.kept _)).cell (i := 6) rfl
                    have HR := Lib.hid hR
                    have HN := Lib.hid hN
                    clear hR hN hp hρ hx
                    go_light
                    go_simp
                    exact ⟨γ, LR.refl _ _, fun _ _ _ h => h, rfl⟩
                  · refine LinStep.yes fun vals γ w' ρ hR hN hp hρ hc hf hg => ⟨rfl, ?_⟩
                    have e78 : ρ (.tmp 78) = (.agg #[.int .i64 x.kind, .string x.s, .int .i64 x.dn, .int .i64 x.ds, .int .i64 x.n, .slice A x.cols.length c, .slice B x.rows.length e]) := (hρ 78).trans (hp 0 (by decide))
                    have e81 : ρ (.tmp 81) = .string (nameS q2) := (hρ 81).trans (hp 3 (by decide))
                    have e82 : ρ (.tmp 82) = (.agg #[.int .i64 xv.kind, .string xv.s, .int .i64 xv.dn, .int .i64 xv.ds, .int .i64 xv.n, .slice none xv.cols.length 0, .slice none xv.rows.length 0]) := (hρ 82).trans (hp 4 (by decide))
                    have hx := hR.drew_ext
                    have HR := Lib.hid hR
                    have HN := Lib.hid hN
                    clear hR hN hp hρ hx
                    go_light
                    go_simp
                    have hff := r09_Where 2 x (nameS q2) xv A B none none c e 0 0 w' (fun _ => True) (fun _ => True) (HRX.out.keep (HR.out.drew_ext.kept _)) HCX.out (HRV.out _)
                    rw [HFS.out] at hff
                    refine hff.mono ?_
                    rintro e' w3 ⟨A1, c1, B1, e1, he, -, hrv, hx⟩
                    exact ⟨_, he, γ, LR.of_ext γ hx, fun _ _ _ h => h, A1, c1, B1, e1, rfl, hrv.mono fun b _ hb => fun ⟨k', hk'⟩ => by have := HR.out.inb0 k' _ hk'; unfold Fresh at hb; omega⟩
                  · refine LinStep.yes fun vals γ w' ρ hR hN hp hρ hc hf hg => ⟨rfl, ?_⟩
                    obtain ⟨A', c', B', e', hv0, hrv0⟩ := hp 5 (by decide)
                    have e83 : ρ (.tmp 83) = _ := (hρ 83).trans hv0
                    have HRV0 := Lib.hid hrv0
                    clear hv0 hrv0
                    have hx := hR.drew_ext
                    have HR := Lib.hid hR
                    have HN := Lib.hid hN
                    clear hR hN hp hρ hx
                    go_light
                    go_simp
                    exact ⟨γ, LR.refl _ _, fun _ _ _ h => h, A', c', B', e', rfl, HRV0.out⟩
                  · refine LinStep.yes fun vals γ w' ρ hR hN hp hρ hc hf hg => ⟨rfl, ?_⟩
                    obtain ⟨A', c', B', e', hv0, hrv0⟩ := hp 6 (by decide)
                    have e77 : ρ (.tmp 77) = _ := (hρ 77).trans hv0
                    have HRV0 := Lib.hid hrv0
                    clear hv0 hrv0
                    have hx := hR.drew_ext
                    have HR := Lib.hid hR
                    have HN := Lib.hid hN
                    clear hR hN hp hρ hx
                    go_light
                    go_simp
                    exact ⟨γ, LR.refl _ _, fun _ _ _ h => h, A', c', B', e', rfl, HRV0.out⟩
                  · refine LinStep.yes fun vals γ w' ρ hR hN hp hρ hc hf hg => ⟨rfl, ?_⟩
                    obtain ⟨A', c', B', e', hv0, hrv0⟩ := hp 6 (by decide)
                    have e77 : ρ (.tmp 77) = _ := (hρ 77).trans hv0
                    have HRV0 := Lib.hid hrv0
                    clear hv0 hrv0
                    have hx := hR.drew_ext
                    have HR := Lib.hid hR
                    have HN := Lib.hid hN
                    clear hR hN hp hρ hx
                    go_light
                    go_simp
                    exact ⟨γ, LR.refl _ _, fun _ _ _ h => h, rfl⟩
                  · refine LinStep.yes fun vals γ w' ρ hR hN hp hρ hc hf hg => ⟨rfl, ?_⟩
                    have hx := hR.drew_ext
                    have HR := Lib.hid hR
                    have HN := Lib.hid hN
                    clear hR hN hp hρ hx
                    go_light
                    go_simp
                    exact ⟨γ.put 9 (some w'.heap.size), LR.new (HN.out.2 ⟨10, rfl⟩) _ _, LN.made, VarAt.new HR.out.inb0 rfl⟩
                  · refine LinStep.yes fun vals γ w' ρ hR hN hp hρ hc hf hg => ⟨rfl, ?_⟩
                    obtain ⟨A', c', B', e', hv0, hrv0⟩ := hp 7 (by decide)
                    have e84 : ρ (.tmp 84) = _ := (hρ 84).trans hv0
                    have HRV0 := Lib.hid hrv0
                    clear hv0 hrv0
                    obtain ⟨g, hv, hcs, hk, hst⟩ := VarAt.store7 (hp 9 (by decide)) (s := 10) (al := al1 10 9) rfl hN
                    have e16 : ρ (.tmp 16) = _ := (hρ 16).trans hv
                    obtain ⟨⟨x0, x1, x2, x3, x4, x5, x6, k0, k1, k2, k3, k4, k5, k6⟩, kf, kz⟩ := blk7 hcs
                    have HST := Lib.hid hst
                    have HK := Lib.hid hk
                    clear hv hst hcs hk
                    have hx := hR.drew_ext
                    have HR := Lib.hid hR
                    have HN := Lib.hid hN
                    clear hR hN hp hρ hx
                    go_light
                    go_simp
                    exact ⟨γ.put 9 none, (HST.out _ _ _ _ _ _ _).1, LN.stored al1_inj rfl HK.out, A', c', B', e', (HST.out _ _ _ _ _ _ _).2, (HST.out _ _ _ _ _ _ _).1.rv HRV0.out⟩
                  · refine LinStep.yes fun vals γ w' ρ hR hN hp hρ hc hf hg => ⟨rfl, ?_⟩
                    have e85 : ρ (.tmp 85) = .int .i64 cd := (hρ 85).trans (hp 8 (by decide))
                    have hx := hR.drew_ext
                    have HR := Lib.hid hR
                    have HN := Lib.hid hN
                    clear hR hN hp hρ hx
                    go_light
                    go_simp
                    exact ⟨γ, LR.refl _ _, fun _ _ _ h => h, rfl⟩
                  · intro vals γ w9 hR hG
                    obtain ⟨A2, c2, B2, e2, ⟨g2, hv2, hb2, -⟩, hrv2⟩ := hG 10 (by decide)
                    have h11 : vals 11 = .int .i64 cd := hG 11 (by decide)
                    have hx9 := hR.drew_ext
                    have HXC := Lib.hid (HXB.out.trans hx9)
                    have HG2 := Lib.hid hb2
                    have HR2 := Lib.hid (hrv2.mono (T := fun _ => True) fun _ _ _ => trivial)
                    have HG1 := Lib.hid (HG18.out.keep (hx9.kept _))
                    have HR1 := Lib.hid (HR18.out.keep (hx9.kept _))
                    have HGX9 := Lib.hid (HGX.out.keep (hx9.kept _))
                    have HRX9 := Lib.hid (HRX.out.keep (hx9.kept _))
                    have HSX9 := Lib.hid (HSX.out.keep (hx9.kept _))
                    clear hR hG hb2 hrv2 HG18 HR18 HGX HRX HGV HGQ HSX hx9
                    simp only [lexFrame, Act.put, List.setIfInBounds_toArray, List.set_cons_succ, List.set_cons_zero, Nat.zero_add, Nat.reduceAdd, hv2, h11]
                    generalize vals 0 = s0, vals 1 = s1, vals 2 = s2, vals 3 = s3, vals 4 = s4, vals 5 = s5, vals 6 = s6, vals 7 = s7, vals 8 = s8, vals 10 = s10
                    clear hv2 h11
                    have x0 := HGX9.out.cell (i := 0) rfl
                    have x1 := HGX9.out.cell (i := 1) rfl
                    have x2 := HGX9.out.cell (i := 2) rfl
                    have x3 := HGX9.out.cell (i := 3) rfl
                    have x4 := HGX9.out.cell (i := 4) rfl
                    have x5 := HGX9.out.cell (i := 5) rfl
                    have x6 := HGX9.out.cell (i := 6) rfl
                    have xz := HGX9.out.lt
                    go_wp2_with fail
                    have hpc := table_Pick 2 x ss A B Al c e cl w9 (fun _ => True) (fun _ => True) HRX9.out HCX.out HSX9.out HCL.out
                    rw [HPKS.out, HSSL.out] at hpc
                    refine hpc.mono ?_
                    rintro e10 w10 ⟨A3, c3, B3, e3, rfl, -, hrv3, hx10⟩
                    obtain ⟨w11, hw11⟩ : ∃ w11, w11 = w10.alloc (.cells #[.int .i64 ps'.kind, .string ps'.s, .int .i64 ps'.dn, .int .i64 ps'.ds, .int .i64 ps'.n, .slice A3 ps'.cols.length c3, .slice B3 ps'.rows.length e3] 33) := ⟨_, rfl⟩
                    obtain ⟨g3, hg3⟩ : ∃ g3, g3 = w10.heap.size := ⟨_, rfl⟩
                    have hx11 : Ext w10 w11 := by rw [hw11]; exact (Ext.refl _).alloc _
                    have hx911 := hx10.trans hx11
                    have HW11 := Lib.hid hw11
                    have HG3E := Lib.hid hg3
                    have HG3 := Lib.hid (show Blk w11 g3 33 #[.int .i64 ps'.kind, .string ps'.s, .int .i64 ps'.dn, .int .i64 ps'.ds, .int .i64 ps'.n, .slice A3 ps'.cols.length c3, .slice B3 ps'.rows.length e3] by rw [hw11, hg3]; exact Blk.new _ _ _)
                    have HR3 := Lib.hid ((hrv3.keep (hx11.kept _)).mono (T := fun _ => True) fun _ _ _ => trivial)
                    have HX11 := Lib.hid (HXC.out.trans hx911)
                    have HGX11 := Lib.hid (HGX9.out.keep (hx911.kept _))
                    have HRX11 := Lib.hid (HRX9.out.keep (hx911.kept _))
                    have HSX11 := Lib.hid (HSX9.out.keep (hx911.kept _))
                    have HG1a := Lib.hid (HG1.out.keep (hx911.kept _))
                    have HG2a := Lib.hid (HG2.out.keep (hx911.kept _))
                    have HR1a := Lib.hid (HR1.out.keep (hx911.kept _))
                    have HR2a := Lib.hid (HR2.out.keep (hx911.kept _))
                    clear hx10 hx11 hx911 hrv3 hpc hw11 hg3 x0 x1 x2 x3 x4 x5 x6 xz HGX9 HRX9 HSX9 HG1 HG2 HR1 HR2
                    go_upto_region 15 with fail
                    rw [← HW11.out, ← HG3E.out]
                    clear HW11 HG3E
                    have x0 := HGX11.out.cell (i := 0) rfl
                    have x1 := HGX11.out.cell (i := 1) rfl
                    have x2 := HGX11.out.cell (i := 2) rfl
                    have x3 := HGX11.out.cell (i := 3) rfl
                    have x4 := HGX11.out.cell (i := 4) rfl
                    have x5 := HGX11.out.cell (i := 5) rfl
                    have x6 := HGX11.out.cell (i := 6) rfl
                    have xz := HGX11.out.lt
                    go_wp2_with fail
                    have hpc := r09_Pick 2 x ss A B Al c e cl w11 (fun _ => True) (fun _ => True) HRX11.out HSX11.out HCL.out
                    rw [HPKS.out, HSSL.out] at hpc
                    refine hpc.mono ?_
                    rintro e12 w12 ⟨A4, c4, B4, e4, rfl, -, hrv4, hx12⟩
                    obtain ⟨w13, hw13⟩ : ∃ w13, w13 = w12.alloc (.cells #[.int .i64 ps'.kind, .string ps'.s, .int .i64 ps'.dn, .int .i64 ps'.ds, .int .i64 ps'.n, .slice A4 ps'.cols.length c4, .slice B4 ps'.rows.length e4] 33) := ⟨_, rfl⟩
                    obtain ⟨g4, hg4⟩ : ∃ g4, g4 = w12.heap.size := ⟨_, rfl⟩
                    have hx13 : Ext w12 w13 := by rw [hw13]; exact (Ext.refl _).alloc _
                    have hx1113 := hx12.trans hx13
                    have HW13 := Lib.hid hw13
                    have HG4E := Lib.hid hg4
                    have hb4 : Blk w13 g4 33 #[.int .i64 ps'.kind, .string ps'.s, .int .i64 ps'.dn, .int .i64 ps'.ds, .int .i64 ps'.n, .slice A4 ps'.cols.length c4, .slice B4 ps'.rows.length e4] := by rw [hw13, hg4]; exact Blk.new _ _ _
                    have HR4 := Lib.hid ((hrv4.keep (hx13.kept _)).mono (T := fun _ => True) fun _ _ _ => trivial)
                    have HX13 := Lib.hid (HX11.out.trans hx1113)
                    have HBL1 := Lib.hid (HG1a.out.keep (hx1113.kept _))
                    have HBL2 := Lib.hid (HG2a.out.keep (hx1113.kept _))
                    have HBL3 := Lib.hid (HG3.out.keep (hx1113.kept _))
                    have HBL4 := Lib.hid hb4
                    have HR1b := Lib.hid (HR1a.out.keep (hx1113.kept _))
                    have HR2b := Lib.hid (HR2a.out.keep (hx1113.kept _))
                    have HR3b := Lib.hid (HR3.out.keep (hx1113.kept _))
                    clear hx12 hx13 hx1113 hrv4 hpc hw13 hg4 hb4 x0 x1 x2 x3 x4 x5 x6 xz HGX11 HRX11 HSX11 HG1a HG2a HR1a HR2a HG3 HR3
                    go_upto_region 16 with fail
                    rw [← HW13.out, ← HG4E.out]
                    clear HW13 HG4E
                    have p10 := HBL1.out.cell (i := 0) rfl
                    have p11 := HBL1.out.cell (i := 1) rfl
                    have p12 := HBL1.out.cell (i := 2) rfl
                    have p13 := HBL1.out.cell (i := 3) rfl
                    have p14 := HBL1.out.cell (i := 4) rfl
                    have p15 := HBL1.out.cell (i := 5) rfl
                    have p16 := HBL1.out.cell (i := 6) rfl
                    have p20 := HBL2.out.cell (i := 0) rfl
                    have p21 := HBL2.out.cell (i := 1) rfl
                    have p22 := HBL2.out.cell (i := 2) rfl
                    have p23 := HBL2.out.cell (i := 3) rfl
                    have p24 := HBL2.out.cell (i := 4) rfl
                    have p25 := HBL2.out.cell (i := 5) rfl
                    have p26 := HBL2.out.cell (i := 6) rfl
                    have p1z := HBL1.out.lt
                    have p2z := HBL2.out.lt
                    go_wp2_with fail
                    refine (r06_Equal 2 rs rs A1 B1 A2 B2 c1 e1 c2 e2 w13 _ _ HR1b.out HR2b.out).mono ?_
                    rintro e14 w14 ⟨rfl, hx14⟩
                    rw [decide_eq_true rfl]
                    have HX14 := Lib.hid (HX13.out.trans hx14)
                    have q30 := (HBL3.out.keep (hx14.kept _)).cell (i := 0) rfl
                    have q31 := (HBL3.out.keep (hx14.kept _)).cell (i := 1) rfl
                    have q32 := (HBL3.out.keep (hx14.kept _)).cell (i := 2) rfl
                    have q33 := (HBL3.out.keep (hx14.kept _)).cell (i := 3) rfl
                    have q34 := (HBL3.out.keep (hx14.kept _)).cell (i := 4) rfl
                    have q35 := (HBL3.out.keep (hx14.kept _)).cell (i := 5) rfl
                    have q36 := (HBL3.out.keep (hx14.kept _)).cell (i := 6) rfl
                    have q40 := (HBL4.out.keep (hx14.kept _)).cell (i := 0) rfl
                    have q41 := (HBL4.out.keep (hx14.kept _)).cell (i := 1) rfl
                    have q42 := (HBL4.out.keep (hx14.kept _)).cell (i := 2) rfl
                    have q43 := (HBL4.out.keep (hx14.kept _)).cell (i := 3) rfl
                    have q44 := (HBL4.out.keep (hx14.kept _)).cell (i := 4) rfl
                    have q45 := (HBL4.out.keep (hx14.kept _)).cell (i := 5) rfl
                    have q46 := (HBL4.out.keep (hx14.kept _)).cell (i := 6) rfl
                    have q3z := (HBL3.out.keep (hx14.kept _)).lt
                    have q4z := (HBL4.out.keep (hx14.kept _)).lt
                    have HR3c := Lib.hid (HR3b.out.keep (hx14.kept _))
                    have HR4c := Lib.hid (HR4.out.keep (hx14.kept _))
                    clear hx14 p10 p11 p12 p13 p14 p15 p16 p20 p21 p22 p23 p24 p25 p26 p1z p2z
                    go_wp2_with fail
                    refine (r06_Equal 2 ps' ps' A3 B3 A4 B4 c3 e3 c4 e4 w14 _ _ HR3c.out HR4c.out).mono ?_
                    rintro e15 w15 ⟨rfl, hx15⟩
                    rw [decide_eq_true rfl]
                    have HX15 := Lib.hid (HX14.out.trans hx15)
                    clear hx15 q30 q31 q32 q33 q34 q35 q36 q40 q41 q42 q43 q44 q45 q46 q3z q4z
                    go_wp2
                    go_roundw
                    case rel => exact ⟨k + 1, by omega, by go_num, HX15.out⟩
                    case measure => simp [intOf]; omega
              · have hk3 : k = 3 := by omega
                subst hk3
                have HX9 := Lib.hid (HX7.out.trans HE.out)
                go_wp2
                go_ret
                exact ⟨rfl, HX9.out⟩
end Go.Proofs.YtcmmkeiiapbgcaaGreatDoor
